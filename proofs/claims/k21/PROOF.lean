import PyProof.Rows.All
import PySem.Syntax
import PySem.PyData
import PyProof.ReprReads
import PyProof.P3Statements
import HandS.ForMost
import HandS.Wide
import HandS.ForExc
import HandS.More
import HandS.TupAny
import HandS.TupLe
import HandS.TupMul
import HandS.Style
import HandS.IsInst
import HandS.RaiseMore
import HandS.Deep
import HandS.SetFor
import PyProof.ReprRoads
import PyProof.Rows.StrTemp
import PyProof.Rows.StrSplitJoin
import HandS.Flow
import HandS.ExcIs
import HandS.HotCalls
import HandS.ExcCtx
import HandS.Ends
import HandS.HeadHook1
import HandS.HeadHook2
import HandS.HeadHook3
import HandS.Head0
import HandS.Head1
import HandS.Head2
import HandS.HeadEnd
import PySem.Str
import PyProof.ReprBulk
import PyProof.Rows.StrSplitAre
import PySem.Challenge.RW_neverbelow_k21_lines_and_forms
set_option Elab.async false
set_option linter.all false
section
set_option Elab.async false
set_option linter.all false
/-! ZCore: data, a small syntax that rebuilds the kit's, its evaluator. -/
namespace Z
open PySem

/-! ### data -/
inductive D where
  | non | bl (b : Bool) | int (i : Int) | str (s : Str)
  | tup (xs : List D) | lst (xs : List D) | dct (kvs : List (D × D))
  | fn (x : Str) | scr (ns : List Int)
  deriving Inhabited

namespace D
mutual
/-- as the library's data (a def, an exception: none) -/
def py : D → PyData
  | non => .none
  | bl b => .bool b
  | int i => .int i
  | str s => .str s
  | tup xs => .tuple (pys xs)
  | lst xs => .list (pys xs)
  | dct kvs => .dict (pykv kvs)
  | fn _ => .none
  | scr _ => .none
def pys : List D → List PyData
  | [] => []
  | x :: r => py x :: pys r
def pykv : List (D × D) → List (PyData × PyData)
  | [] => []
  | (k, v) :: r => (py k, py v) :: pykv r
end
mutual
/-- no dict, def or exception within -/
def plain : D → Bool
  | tup xs => plains xs
  | lst xs => plains xs
  | dct _ => false
  | fn _ => false
  | scr _ => false
  | _ => true
def plains : List D → Bool
  | [] => true
  | x :: r => plain x && plains r
end
mutual
def eqv : D → D → Bool
  | non, non => true
  | bl a, bl b => a == b
  | bl a, int j => (if a then 1 else 0) == j
  | int i, bl b => i == (if b then 1 else 0)
  | int i, int j => i == j
  | str x, str y => x == y
  | tup xs, tup ys => eqvs xs ys
  | lst xs, lst ys => eqvs xs ys
  | _, _ => false
def eqvs : List D → List D → Bool
  | [], [] => true
  | x :: xs, y :: ys => eqv x y && eqvs xs ys
  | _, _ => false
end
mutual
def depth : D → Nat
  | tup xs => depths xs + 1
  | lst xs => depths xs + 1
  | dct kvs => depthkv kvs + 1
  | _ => 0
def depths : List D → Nat
  | [] => 0
  | x :: r => max (depth x) (depths r)
def depthkv : List (D × D) → Nat
  | [] => 0
  | (k, v) :: r => max (max (depth k) (depth v)) (depthkv r)
end
def isNon : D → Bool
  | non => true
  | _ => false
/-- truth -/
def tru : D → Option Bool
  | non => some false
  | bl b => some b
  | int i => some (i != 0)
  | str s => some (s.length != 0)
  | tup xs => some !xs.isEmpty
  | lst xs => some !xs.isEmpty
  | _ => none
end D

/-- a value: frozen data, or what one variable alone holds and may change -/
inductive O where
  | frz (d : D)
  | lst (xs : List D)
  | dct (kvs : List (D × D))
  | ins (c : Str) (fs : List (Str × D))
  | exc (c : Str) (arg : Option (Str × Int))
  deriving Inhabited
namespace O
/-- what it is, to a reader (an instance has no reading) -/
def d : O → D
  | frz d => d
  | lst xs => .lst xs
  | dct kvs => .dct kvs
  | ins _ _ => .non
  | exc _ _ => .non
def isIns : O → Bool
  | ins _ _ => true
  | _ => false
def own : O → Bool
  | frz _ => false
  | exc _ _ => false
  | _ => true
end O

abbrev Env := List (Option O)

/-- an exception on its way -/
structure Ex where
  c : Str
  arg : Option (Str × Int)

inductive R (α : Type) where
  | ok (a : α) (s : Env)
  | ex (x : Ex) (s : Env)
  | st
  deriving Inhabited

abbrev M (α : Type) := Env → R α
@[inline] def M.pure {α : Type} (a : α) : M α := fun s => .ok a s
@[inline] def M.bind {α β : Type} (m : M α) (f : α → M β) : M β := fun s => match m s with
  | .ok a s' => f a s'
  | .ex x s' => .ex x s'
  | .st => .st
def M.stuck {α : Type} : M α := fun _ => .st
def M.ofOpt {α : Type} : Option α → M α
  | some a => M.pure a
  | none => M.stuck

/-! ### syntax -/
inductive Bop | add | sub | mul | fdv | mod | pow | shl | shr | band
  deriving DecidableEq, Inhabited
inductive Cop | eq | ne | lt | le | gt | ge | isx | isn | inx | nin
  deriving DecidableEq, Inhabited
def Bop.x : Bop → Operator
  | add => .Add | sub => .Sub | mul => .Mult | fdv => .FloorDiv | mod => .Mod | pow => .Pow | shl => .LShift | shr => .RShift | band => .BitAnd
def Cop.x : Cop → CmpOp
  | eq => .Eq | ne => .NotEq | lt => .Lt | le => .LtE | gt => .Gt | ge => .GtE | isx => .Is | isn => .IsNot | inx => .In | nin => .NotIn

def p0 : Pos := ⟨0, 0, 0, 0⟩
def sc0 : Scope := { kind := .function, names := [], isGenerator := false, isCoroutine := false }

inductive E where
  | non (k : Nat) (p : Pos)
  | bl (b : Bool) (k : Nat) (p : Pos)
  | int (i : Int) (k : Nat) (p : Pos)
  | str (s : Str) (k : Nat) (p : Pos)
  | var (i : Nat) (x : Str) (p : Pos)
  | glb (x : Str) (p : Pos)
  | bin (op : Bop) (a b : E) (p : Pos)
  | neg (a : E) (p : Pos)
  | nt (a : E) (p : Pos)
  | band (es : List E) (p : Pos)
  | bor (es : List E) (p : Pos)
  | cmp (op : Cop) (a b : E) (p : Pos)
  | chn (op1 op2 : Cop) (a b c : E) (p : Pos)
  | chn3 (op1 op2 op3 : Cop) (a b c d : E) (p : Pos)
  | ife (c a b : E) (p : Pos)
  | call (x : Str) (es : List E) (p q : Pos)
  | bi (x : Str) (es : List E) (p q : Pos)
  | calle (f : E) (es : List E) (q : Pos)
  | meth (o : E) (m : Str) (es : List E) (p q : Pos)
  | attr (o : E) (m : Str) (p : Pos)
  | sub (a i : E) (p : Pos)
  | slc (a : E) (lo hi st : Option E) (p q : Pos)
  | lst (es : List E) (p : Pos)
  | tup (es : List E) (k : Nat) (p : Pos)
  | star (e : E) (p : Pos)
  | dic (ks vs : List E) (p : Pos)
  | lc (el : E) (tg : E) (it : E) (ifs : List E) (own : List Nat) (sc : Scope) (p : Pos)
  | lc2 (el : E) (tg : E) (it : E) (tg2 : E) (it2 : E) (ifs2 : List E) (own : List Nat) (sc : Scope) (p : Pos)
  | dc (k v : E) (tg : E) (it : E) (ifs : List E) (own : List Nat) (sc : Scope) (p : Pos)
  deriving Inhabited

inductive S where
  | asg (t e : E) (p : Pos)
  | aug (t : E) (op : Bop) (e : E) (p : Pos)
  | ret (e : E) (p : Pos)
  | retn (p : Pos)
  | ifs (c : E) (a b : List S) (p : Pos)
  | fors (t it : E) (b : List S) (p : Pos)
  | whl (c : E) (b : List S) (p : Pos)
  | brk (p : Pos)
  | cnt (p : Pos)
  | pas (p : Pos)
  | expr (e : E) (p : Pos)
  | rais (x : Str) (es : List E) (p q r : Pos)
  | tryx (b : List S) (x : Str) (px : Pos) (n : Option (Nat × Str)) (h : List S) (ph p : Pos)
  deriving Inhabited
end Z
end

section
set_option Elab.async false
set_option linter.all false
/-! ZEval: the evaluator. -/
namespace Z
open PySem

abbrev LIM : Nat := 16000000

/-! ### operations on data -/
def asInt : D → Option Int
  | .int i => some i
  | .bl b => some (if b then 1 else 0)
  | _ => none
def mulOk (i j : Int) : Bool := decide (i.natAbs.log2 + j.natAbs.log2 < 900000)
def divOk (j : Int) : Bool := decide (0 < j) && decide (j.natAbs.log2 < 9000)
def strOk (s : Str) : Bool := decide (s.length ≤ LIM)

def repD (xs : List D) (n : Int) : List D := (List.replicate n.toNat xs).flatten

def binD : Bop → D → D → Option O
  | .add, .int i, .int j => some (.frz (.int (i + j)))
  | .add, .int i, .bl j => some (.frz (.int (i + if j then 1 else 0)))
  | .add, .str x, .str y => if decide (x.length + y.length ≤ LIM) then some (.frz (.str (x ++ y))) else none
  | .add, .tup xs, .tup ys => if decide (xs.length + ys.length ≤ LIM) then some (.frz (.tup (xs ++ ys))) else none
  | .add, .lst xs, .lst ys => if decide (xs.length + ys.length ≤ LIM) then some (.lst (xs ++ ys)) else none
  | .sub, .int i, .int j => some (.frz (.int (i - j)))
  | .mul, .int i, .int j => if mulOk i j then some (.frz (.int (i * j))) else none
  | .mul, .lst xs, .int n => if decide (xs.length * n.toNat ≤ LIM) && decide (n < 1000000000) && decide (-1000000000 < n) then some (.lst (repD xs n)) else none
  | .fdv, .int i, .int j => if divOk j then some (.frz (.int (i / j))) else none
  | .mod, .int i, .int j => if j = 0 then none else some (.frz (.int (i.fmod j)))
  | .pow, .int i, .int j => if decide (0 ≤ j) && decide (j ≤ 1000) && decide (i.natAbs < 2 ^ 64) then some (.frz (.int (i ^ j.toNat))) else none
  | .shl, .int i, .int j => if decide (0 ≤ j) && decide (j ≤ 1000) && decide (i.natAbs < 2 ^ 64) then some (.frz (.int (i * 2 ^ j.toNat))) else none
  | .shr, .int i, .int j => if 0 ≤ j then some (.frz (.int (i / 2 ^ j.toNat))) else none
  | .band, .int i, .int j => some (.frz (.int (Builtin.bitAnd i j)))
  | _, _, _ => none

mutual
/-- every text within has codes that are codes -/
def okS : D → Bool
  | .str s => s.cps.all (· < 0x110000)
  | .tup xs => okSs xs
  | .lst xs => okSs xs
  | _ => true
def okSs : List D → Bool
  | [] => true
  | x :: r => okS x && okSs r
end
def eqOk (d : D) : Bool := d.plain && okS d && decide (d.depth ≤ 60)
/-- x is among (a list's, a tuple's items; a dict's keys; a text's signs) -/
def keyOk : D → Bool
  | .int _ => true
  | .str _ => true
  | _ => false
/-- k may be asked of such a dict: its keys are of one kind -/
def kindD : D → D → Bool
  | .int _, .int _ => true
  | .str _, .str _ => true
  | _, _ => false
def askOk (kvs : List (D × D)) (k : D) : Bool := keyOk k && kvs.all fun p => kindD k p.1
def dget (kvs : List (D × D)) (k : D) : Option D := (kvs.find? fun p => D.eqv p.1 k).map (·.2)
def dput (kvs : List (D × D)) (k v : D) : List (D × D) :=
  if kvs.any fun p => D.eqv p.1 k then kvs.map fun p => if D.eqv p.1 k then (p.1, v) else p else kvs ++ [(k, v)]
def flatD : D → Bool
  | .non => true
  | .bl _ => true
  | .int _ => true
  | .str _ => true
  | _ => false
def inD (x : D) : D → Option Bool
  | .str z => match x with | .str y => some !(Builtin.Str.occurrences z y 0 z.length 1).isEmpty | _ => none
  | .lst xs => if eqOk x && xs.all eqOk then some (xs.any fun y => D.eqv y x) else none
  | .tup xs => if flatD x && xs.all flatD then some (xs.any fun y => D.eqv y x) else none
  | .dct kvs => if askOk kvs x then some (dget kvs x).isSome else none
  | _ => none
mutual
/-- < of tuples and lists of ints and texts, alike at each place -/
def ltD : D → D → Option Bool
  | .int i, .int j => some (decide (i < j))
  | .str x, .str y => some (decide (x.cps.toList < y.cps.toList))
  | _, _ => none
def ltDs : List D → List D → Option Bool
  | [], [] => some false
  | [], _ :: _ => some true
  | _ :: _, [] => some false
  | x :: xs, y :: ys => if D.eqv x y then ltDs xs ys else ltD x y
end
def cmpD : Cop → D → D → Option Bool
  | .eq, .str a, .str b => some (decide (a = b))
  | .ne, .str a, .str b => some (!decide (a = b))
  | .eq, a, b => if eqOk a && eqOk b then some (D.eqv a b) else none
  | .ne, a, b => if eqOk a && eqOk b then some (!D.eqv a b) else none
  | .lt, a, b => ltD a b
  | .le, .int i, .int j => some (decide (i ≤ j))
  | .le, .str x, .str y => some (!decide (y.cps.toList < x.cps.toList))
  | .gt, .int i, .int j => some (decide (j < i))
  | .ge, .int i, .int j => some (decide (j ≤ i))
  | .isx, a, .non => some a.isNon
  | .isn, a, .non => some !a.isNon
  | .isx, .bl a, .bl b => some (a == b)
  | .isn, .bl a, .bl b => some (a != b)
  | .inx, a, b => inD a b
  | .nin, a, b => (inD a b).map (!·)
  | _, _, _ => none

/-- a place in a list of n -/
abbrev ixD (n : Nat) (i : Int) : Option Nat := L2.ixN n i
def subD : D → D → Option D
  | .tup xs, .int i => (ixD xs.length i).bind fun j => xs[j]?
  | .lst xs, .int i => (ixD xs.length i).bind fun j => xs[j]?
  | .str s, .int i => (ixD s.length i).bind fun j => (s.cps[j]?).map fun c => .str ⟨#[c]⟩
  | .dct kvs, k => if askOk kvs k then dget kvs k else none
  | _, _ => none
/-- a slice without a step -/
def cutD {α : Type} (xs : List α) (lo hi : Option Int) : List α :=
  (xs.drop (HT.sIx xs.length 0 lo)).take (HT.sIx xs.length xs.length hi - HT.sIx xs.length 0 lo)
def slcD (a : D) (lo hi : Option Int) : Option O := match a with
  | .tup xs => some (.frz (.tup (cutD xs lo hi)))
  | .lst xs => some (.lst (cutD xs lo hi))
  | .str s => some (.frz (.str ⟨(cutD s.cps.toList lo hi).toArray⟩))
  | _ => none
def revD : D → Option O
  | .tup xs => some (.frz (.tup xs.reverse))
  | .lst xs => some (.lst xs.reverse)
  | _ => none
def intsD : List D → Option (List Int)
  | [] => some []
  | .int i :: r => (intsD r).map (i :: ·)
  | .bl b :: r => (intsD r).map ((if b then 1 else 0) :: ·)
  | _ => none
def blsD : List D → Option (List Bool)
  | [] => some []
  | .bl b :: r => (blsD r).map (b :: ·)
  | _ => none
def strsD : List D → Option (List Str)
  | [] => some []
  | .str b :: r => (strsD r).map (b :: ·)
  | _ => none
mutual
def reprOk : D → Bool
  | .non => true
  | .bl _ => true
  | .str _ => true
  | .int i => decide (i.natAbs.log2 < 1900)
  | .tup xs => reprOks xs
  | .lst xs => reprOks xs
  | _ => false
def reprOks : List D → Bool
  | [] => true
  | x :: r => reprOk x && reprOks r
end
def reprD (d : D) : Option D :=
  if reprOk d && decide (d.depth ≤ 60) && decide (d.py.shown.length ≤ LIM) then some (.str d.py.shown) else none
/-- order of data, for sorted: item by item -/
def leD (a b : D) : Bool := match ltD b a with | some t => !t | none => false
def sortD (xs : List D) : List D := xs.mergeSort leD
mutual
def alikeD : D → D → Bool
  | .int _, .int _ => true
  | .str _, .str _ => true
  | .tup xs, .tup ys => alikeDs xs ys
  | _, _ => false
def alikeDs : List D → List D → Bool
  | x :: xs, y :: ys => alikeD x y && alikeDs xs ys
  | _, _ => true
end
def sortOk (xs : List D) : Bool := match xs with
  | [] => true
  | _ => (xs.all fun x => xs.all fun y => alikeD x y) && (xs.all fun x => match x with | .tup [] => false | .int _ => true | .str _ => true | .tup _ => decide (x.depth ≤ 60) | _ => false)
def isiD (x : D) (t : Str) : Option Bool := match x with
  | .fn _ => none
  | .scr _ => none
  | .dct _ => none
  | .int _ => some (t == "int")
  | .bl _ => some (t == "int" || t == "bool")
  | .str _ => some (t == "str")
  | .tup _ => some (t == "tuple")
  | .lst _ => some (t == "list")
  | .non => some false
/-- the walked items of a value -/
def itemsD : D → Option (List D)
  | .tup xs => some xs
  | .lst xs => some xs
  | .str s => some (s.cps.toList.map fun c => .str ⟨#[c]⟩)
  | .scr ns => some (ns.map .int)
  | _ => none
def rangeD (lo hi st : Int) : Option (List D) :=
  if decide (-(2 ^ 60) ≤ lo) && decide (lo < 2 ^ 60) && decide (-(2 ^ 60) ≤ hi) && decide (hi < 2 ^ 60) then
    if st = 1 then some ((List.range (hi - lo).toNat).map fun (k : Nat) => .int (lo + (k : Int)))
    else if st = -1 then some ((List.range (lo - hi).toNat).map fun (k : Nat) => .int (lo - (k : Int)))
    else if st = 2 then some ((List.range ((hi - lo + 1) / 2).toNat).map fun (k : Nat) => .int (lo + 2 * (k : Int))) else none
  else none
def pairsOf : List D → Option (List (D × D))
  | [] => some []
  | .tup [k, v] :: r => if keyOk k then (pairsOf r).map ((k, v) :: ·) else none
  | _ => none
def minI (xs : List Int) : Option Int := match xs with | [] => none | x :: r => some (r.foldl (fun a b => if b < a then b else a) x)
def maxI (xs : List Int) : Option Int := match xs with | [] => none | x :: r => some (r.foldl (fun a b => if b > a then b else a) x)
def indexD (xs : List D) (x : D) : Option Nat := if eqOk x && xs.all eqOk then xs.findIdx? fun y => D.eqv y x else none

def bi_len : List D → Option O
  | [.tup xs] => some (.frz (.int xs.length))
  | [.lst xs] => some (.frz (.int xs.length))
  | [.str s] => some (.frz (.int s.length))
  | _ => none
def bi_int : List D → Option O
  | [.int i] => some (.frz (.int i))
  | [.bl b] => some (.frz (.int (if b then 1 else 0)))
  | [.str s] => if decide (s.length ≤ 640) then (PySem.intText? s).map fun n => .frz (.int n) else none
  | _ => none
def bi_abs : List D → Option O
  | [.int i] => some (.frz (.int (if i < 0 then -i else i)))
  | _ => none
def bi_all : List D → Option O
  | [.lst xs] => (blsD xs).map fun bs => .frz (.bl (bs.all id))
  | _ => none
def bi_any : List D → Option O
  | [.lst xs] => (blsD xs).map fun bs => .frz (.bl (bs.any id))
  | _ => none
def bi_sum : List D → Option O
  | [.lst xs] => (intsD xs).map fun bs => .frz (.int bs.sum)
  | [.tup xs] => (intsD xs).map fun bs => .frz (.int bs.sum)
  | _ => none
def bi_tuple : List D → Option O
  | [.lst xs] => some (.frz (.tup xs))
  | [.tup xs] => some (.frz (.tup xs))
  | _ => none
def bi_list : List D → Option O
  | [.lst xs] => some (.lst xs)
  | [.tup xs] => some (.lst xs)
  | [.dct kvs] => some (.lst (kvs.map (·.1)))
  | _ => none
def bi_sorted : List D → Option O
  | [.lst xs] => if sortOk xs then some (.lst (sortD xs)) else none
  | [.tup xs] => if sortOk xs then some (.lst (sortD xs)) else none
  | [.dct kvs] => if sortOk (kvs.map (·.1)) then some (.lst (sortD (kvs.map (·.1)))) else none
  | _ => none
def bi_min : List D → Option O
  | [.int i, .int j] => some (.frz (.int (if j < i then j else i)))
  | [.lst xs] => (intsD xs).bind fun is => (minI is).map fun m => .frz (.int m)
  | [.tup xs] => (intsD xs).bind fun is => (minI is).map fun m => .frz (.int m)
  | _ => none
def bi_max : List D → Option O
  | [.int i, .int j] => some (.frz (.int (if j > i then j else i)))
  | [.lst xs] => (intsD xs).bind fun is => (maxI is).map fun m => .frz (.int m)
  | [.tup xs] => (intsD xs).bind fun is => (maxI is).map fun m => .frz (.int m)
  | _ => none
def bi_repr : List D → Option O
  | [d] => (reprD d).map .frz
  | _ => none
def bi_str : List D → Option O
  | [.int i] => if decide (i.natAbs.log2 < 1900) then some (.frz (.str (toString i))) else none
  | [.str s] => some (.frz (.str s))
  | _ => none
def bi_dict : List D → Option O
  | [.lst xs] => (pairsOf xs).map fun kvs => .dct (kvs.foldl (fun m p => dput m p.1 p.2) [])
  | [.tup xs] => (pairsOf xs).map fun kvs => .dct (kvs.foldl (fun m p => dput m p.1 p.2) [])
  | [.dct kvs] => some (.dct kvs)
  | _ => none
/-- a built-in function of values -/
def biD (x : Str) (as : List D) : Option O :=
  if x == "len" then bi_len as
  else if x == "int" then bi_int as
  else if x == "abs" then bi_abs as
  else if x == "all" then bi_all as
  else if x == "any" then bi_any as
  else if x == "sum" then bi_sum as
  else if x == "tuple" then bi_tuple as
  else if x == "list" then bi_list as
  else if x == "sorted" then bi_sorted as
  else if x == "min" then bi_min as
  else if x == "max" then bi_max as
  else if x == "repr" then bi_repr as
  else if x == "str" then bi_str as
  else if x == "dict" then bi_dict as
  else none
/-- whose methods these are -/
def methT (m : Str) : String :=
  if m == "index" || m == "count" then "list" else if m == "get" then "dict" else "str"
def mt_index : D → List D → Option O
  | .lst xs, [x] => (indexD xs x).map fun j => .frz (.int j)
  | _, _ => none
def mt_count : D → List D → Option O
  | .lst xs, [x] => if flatD x && xs.all flatD then some (.frz (.int (xs.countP fun y => D.eqv y x))) else none
  | _, _ => none
def mt_get : D → List D → Option O
  | .dct kvs, [k] => if askOk kvs k then some (.frz ((dget kvs k).getD .non)) else none
  | .dct kvs, [k, d] => if askOk kvs k then some (.frz ((dget kvs k).getD d)) else none
  | _, _ => none
def mt_join : D → List D → Option O
  | .str z, [.lst xs] => (strsD xs).bind fun ys => if decide ((ys.map (·.length)).sum + ys.length * z.length ≤ LIM) then some (.frz (.str (PySem.Txt.join z ys))) else none
  | _, _ => none
def mt_split : D → List D → Option O
  | .str z, [.str y] => if decide (0 < y.length) && decide (z.length + 2 ≤ LIM) then some (.lst ((PySem.Txt.split z y).map .str)) else none
  | _, _ => none
def mt_startswith : D → List D → Option O
  | .str z, [.str y] => some (.frz (.bl (PySem.Txt.startswith z y)))
  | _, _ => none
def mt_endswith : D → List D → Option O
  | .str z, [.str y] => some (.frz (.bl (PySem.Txt.endswith z y)))
  | _, _ => none
/-- a method of a built-in type that changes nothing -/
def methD (m : Str) (o : D) (as : List D) : Option O :=
  if m == "index" then mt_index o as
  else if m == "count" then mt_count o as
  else if m == "get" then mt_get o as
  else if m == "join" then mt_join o as
  else if m == "split" then mt_split o as
  else if m == "startswith" then mt_startswith o as
  else if m == "endswith" then mt_endswith o as
  else none
def mu_append : O → List D → Option (O × D)
  | .lst xs, [x] => if decide (xs.length < LIM) then some (.lst (xs ++ [x]), .non) else none
  | _, _ => none
def mu_extend : O → List D → Option (O × D)
  | .lst xs, [.lst ys] => if decide (xs.length + ys.length ≤ LIM) then some (.lst (xs ++ ys), .non) else none
  | _, _ => none
def mu_reverse : O → List D → Option (O × D)
  | .lst xs, [] => some (.lst xs.reverse, .non)
  | _, _ => none
def mu_pop : O → List D → Option (O × D)
  | .lst xs, [] => (xs.getLast?).map fun x => (.lst xs.dropLast, x)
  | _, _ => none
def mu_insert : O → List D → Option (O × D)
  | .lst xs, [.int i, x] => if decide (xs.length < LIM) && decide (0 ≤ i) && decide (i < 2 ^ 60) then some (.lst (xs.take i.toNat ++ [x] ++ xs.drop i.toNat), .non) else none
  | _, _ => none
/-- a method that changes the thing that a variable holds: what it then is, what is handed back -/
def mutD (m : Str) (o : O) (as : List D) : Option (O × D) :=
  if m == "append" then mu_append o as
  else if m == "extend" then mu_extend o as
  else if m == "reverse" then mu_reverse o as
  else if m == "pop" then mu_pop o as
  else if m == "insert" then mu_insert o as
  else none
def isPl (m : Str) : Bool := m == "index" || m == "count" || m == "get" || m == "join" || m == "split" || m == "startswith" || m == "endswith"
def isMut (m : Str) : Bool := m == "append" || m == "extend" || m == "reverse" || m == "pop" || m == "insert"

/-! ### the evaluator -/
inductive A where
  | val (d : D) | plc (i : Nat)
inductive FR where
  | ok (r : O) (outs : List O) | ex (x : Ex) (outs : List O) | st
/-- what stands around: the defs (with fuel), the constants, the parameters that are lent, the order of exception classes, the fuel of a while -/
structure Cxt where
  call : Str → List O → FR
  con : Str → Option D
  lent : Str → List Bool
  sub : Str → Str → Bool
  cls : Str → Bool
  fld : Str → Option Str
  ar : Str → Option Nat
  wf : Nat

def getO (s : Env) (i : Nat) : Option O := (s[i]?).join
def frzO : O → Option D
  | .ins _ _ => none
  | .exc _ _ => none
  | o => some o.d
def A.get (s : Env) : A → Option D
  | .val d => some d
  | .plc i => (getO s i).bind frzO
def A.getO (s : Env) : A → Option O
  | .val d => some (.frz d)
  | .plc i => Z.getO s i
def gets (s : Env) (as : List A) : Option (List D) := as.mapM (A.get s)
/-- o's data, frozen where it stands -/
def freezeVar (i : Nat) : M D := fun s => match getO s i with
  | some (.frz d) => .ok d s
  | some (.ins _ _) => .st
  | some (.exc _ _) => .st
  | some o => .ok o.d (s.set i (some (.frz o.d)))
  | none => .st
def wipeE : List Nat → Env → Env
  | [], s => s
  | i :: r, s => (wipeE r s).set i none
/-- own's places as they were in s0 -/
def backE : List Nat → Env → Env → Env
  | [], _, s => s
  | i :: r, s0, s => (backE r s0 s).set i (s0[i]?).join
def wipeM (own : List Nat) : M Unit := fun s => .ok () (wipeE own s)
/-- the lent places of a call take what the def left -/
def lendBack : List A → List O → List Bool → Env → Option Env
  | .plc i :: as, o :: os, true :: fs, s => lendBack as os fs (s.set i (some o))
  | _ :: as, _ :: os, _ :: fs, s => lendBack as os fs s
  | [], [], _, s => some s
  | _ :: as, _ :: os, [], s => lendBack as os [] s
  | _, _, _, _ => none
def plcs : List A → List Nat
  | [] => []
  | .plc i :: r => i :: plcs r
  | _ :: r => plcs r
def isVar : E → Option Nat
  | .var i _ _ => some i
  | _ => none

variable (C : Cxt)
/-- what is not lent is data, or the handled exception -/
def okLend : List A → List O → List Bool → Bool
  | [], _, _ => true
  | .plc _ :: as, o :: os, fs => ((fs.headD false) || (match o with | .exc _ _ => true | _ => false)) && okLend as os fs.tail
  | _ :: as, _ :: os, fs => okLend as os fs.tail
  | _ :: _, [], _ => false
def doCall (x : Str) (as : List A) (s : Env) : R O :=
  if decide (plcs as).Nodup then
    match as.mapM (A.getO s) with
    | none => .st
    | some os => if okLend as os (C.lent x) then match C.call x os with
      | .ok r outs => match lendBack as outs (C.lent x) s with
        | some s' => .ok r s'
        | none => .st
      | .ex e outs => match lendBack as outs (C.lent x) s with
        | some s' => .ex e s'
        | none => .st
      | .st => .st
      else .st
  else .st
def constD : D → M O := fun d => M.pure (.frz d)
def opt {α : Type} (o : Option α) : M α := fun s => match o with | some a => .ok a s | none => .st

def kwOf : E → Option Str
  | .bi x _ _ _ => some x
  | _ => none

/-- store into a thing that a variable holds -/
def setIn (o : O) (k v : D) : Option O := match o with
  | .lst xs => match k with
    | .int i => (ixD xs.length i).map fun j => .lst (xs.set j v)
    | _ => none
  | .dct kvs => if askOk kvs k && decide (kvs.length < LIM) then some (.dct (dput kvs k v)) else none
  | _ => none

/-- what an expression does: as a value (new things are the taker's own), as an operand (what a variable owns is only looked at), as a test, as what a loop walks, as a built-in's one argument, as a target -/
structure Den where
  v : M O
  a : M A
  t : M Bool
  it : M (List D)
  w : M A
  g : O → M Unit
  var : Option Nat
  star : Bool
  kids : List Den
instance : Inhabited Den := ⟨⟨M.stuck, M.stuck, M.stuck, M.stuck, M.stuck, fun _ => M.stuck, none, false, []⟩⟩
def aOf (v : M O) : M A := v.bind fun o => (opt (frzO o)).bind fun d => M.pure (.val d)
def dOf (v : M O) : M D := v.bind fun o => opt (frzO o)
def Den.d (x : Den) : M D := dOf x.v
def tOf (a : M A) : M Bool := a.bind fun a => fun s => match a.get s with
  | some d => opt d.tru s
  | none => .st
def itOf (v : M O) : M (List D) := (dOf v).bind fun d => opt (itemsD d)
/-- the modes of an expression that is no name, test or target -/
def mkV (v : M O) : Den := ⟨v, aOf v, tOf (aOf v), itOf v, aOf v, fun _ => M.stuck, none, false, []⟩
def mkT (v : M O) (t : M Bool) : Den := ⟨v, aOf v, t, itOf v, aOf v, fun _ => M.stuck, none, false, []⟩
def mkI (v : M O) (it : M (List D)) (w : M A) : Den := ⟨v, aOf v, tOf (aOf v), it, w, fun _ => M.stuck, none, false, []⟩
def mkG (v : M O) (g : O → M Unit) : Den := ⟨v, aOf v, tOf (aOf v), itOf v, aOf v, g, none, false, []⟩

def asM : List Den → M (List A)
  | [] => M.pure []
  | e :: r => e.a.bind fun a => (asM r).bind fun as => M.pure (a :: as)
def dsM : List Den → M (List D)
  | [] => M.pure []
  | e :: r => e.d.bind fun a => (dsM r).bind fun as => M.pure (a :: as)
/-- a def's arguments: what is lent stays its owner's, all else is frozen -/
def argM (e : Den) (f : Bool) : M A := match e.var, f with
  | some _, true => e.a
  | some i, false => fun s => match getO s i with
    | some (.exc _ _) => .ok (.plc i) s
    | _ => (e.d.bind fun d => M.pure (.val d)) s
  | none, _ => e.d.bind fun d => M.pure (.val d)
def csM : List Den → List Bool → M (List A)
  | [], _ => M.pure []
  | e :: r, fs => (argM e (fs.headD false)).bind fun a => (csM r fs.tail).bind fun as => M.pure (a :: as)
/-- the items of a display, with stars -/
def spM : List Den → M (List D)
  | [] => M.pure []
  | e :: r => if e.star then e.a.bind fun a => fun s => match a.get s with
      | some d => (opt (itemsD d)).bind (fun xs => (spM r).bind fun ys => M.pure (xs ++ ys)) s
      | none => .st
    else e.d.bind fun d => (spM r).bind fun ys => M.pure (d :: ys)
def kvM : List Den → List Den → M (List (D × D))
  | [], [] => M.pure []
  | k :: ks, v :: vs => k.d.bind fun a => v.d.bind fun b => (kvM ks vs).bind fun r => if keyOk a then M.pure ((a, b) :: r) else M.stuck
  | _, _ => M.stuck
def oM : Option Den → M (Option Int)
  | none => M.pure none
  | some e => e.a.bind fun a => fun s => match a.get s with
    | some (.int i) => .ok (some i) s
    | _ => .st
def tsM (c : Bool) : List Den → M Bool
  | [] => M.pure c
  | e :: r => e.t.bind fun b => if b == c then tsM c r else M.pure b
def andM : List Den → M D
  | [] => M.stuck
  | [e] => e.d
  | e :: r => e.d.bind fun d => (opt d.tru).bind fun t => if t then andM r else M.pure d
def orM : List Den → M D
  | [] => M.stuck
  | [e] => e.d
  | e :: r => e.d.bind fun d => (opt d.tru).bind fun t => if t then M.pure d else orM r
/-- two operands, then something of both -/
def two {α : Type} (x y : M A) (k : D → D → M α) : M α := x.bind fun a => y.bind fun b => fun s => match a.get s, b.get s with
  | some u, some v => k u v s
  | _, _ => .st
def one {α : Type} (x : M A) (k : D → M α) : M α := x.bind fun a => fun s => match a.get s with
  | some u => k u s
  | none => .st
def many {α : Type} (xs : M (List A)) (k : List D → M α) : M α := xs.bind fun as => fun s => match gets s as with
  | some ds => k ds s
  | none => .st
def chnT (op1 op2 : Cop) (a b c : M A) : M Bool := a.bind fun x => b.bind fun y => fun s => match x.get s, y.get s with
  | some u, some v => (opt (cmpD op1 u v)).bind (fun t => if t then c.bind fun z => fun s => match y.get s, z.get s with
      | some v, some w => opt (cmpD op2 v w) s
      | _, _ => .st else M.pure false) s
  | _, _ => .st
def chn3T (op1 op2 op3 : Cop) (a b c d : M A) : M Bool := a.bind fun x => b.bind fun y => fun s => match x.get s, y.get s with
  | some u, some v => (opt (cmpD op1 u v)).bind (fun t => if t then c.bind fun z => fun s => match y.get s, z.get s with
      | some v, some w => (opt (cmpD op2 v w)).bind (fun t => if t then d.bind fun z2 => fun s => match z.get s, z2.get s with
        | some w, some w2 => opt (cmpD op3 w w2) s
        | _, _ => .st else M.pure false) s
      | _, _ => .st else M.pure false) s
  | _, _ => .st
def blM (t : M Bool) : M O := t.bind fun t => constD (.bl t)
def rngD : List D → Option (List D)
  | [.int n] => rangeD 0 n 1
  | [.int i, .int n] => rangeD i n 1
  | [.int i, .int n, .int t] => rangeD i n t
  | _ => none
/-- range(..), zip(..), enumerate(..), reversed(..), walked -/
def walkM (x : Str) (es : List Den) : M (List D) :=
  if x == "range" then many (asM es) fun ds => opt (rngD ds)
  else (dsM es).bind fun ds => opt (
    if x == "zip" then match ds with
      | [a, b] => (itemsD a).bind fun xs => (itemsD b).map fun ys => (xs.zip ys).map fun p => .tup [p.1, p.2]
      | [a, b, c] => (itemsD a).bind fun xs => (itemsD b).bind fun ys => (itemsD c).map fun zs => (xs.zip (ys.zip zs)).map fun p => .tup [p.1, p.2.1, p.2.2]
      | _ => none
    else if x == "enumerate" then match ds with
      | [a] => (itemsD a).map fun xs => (xs.zipIdx).map fun p => .tup [.int p.2, p.1]
      | _ => none
    else match ds with
      | [a] => (itemsD a).map List.reverse
      | _ => none)
def isWalk (x : Str) : Bool := x == "range" || x == "zip" || x == "enumerate" || x == "reversed"
def isiM (e : Den) (t : Str) : M O := e.a.bind fun a => fun s => if C.cls t then (match a.getO s with
    | some (.exc c none) => if C.cls c then .ok (.frz (.bl (C.sub c t))) s else .st
    | _ => .st)
  else match (a.getO s).bind frzO with
    | some d => (opt (isiD d t)).bind (fun t => constD (.bl t)) s
    | none => .st
def biM (x : Str) (es : List E) (ds : List Den) : M O :=
  if x == "isinstance" then match ds, es with
    | [e, _], [_, .glb t _] => isiM C e t
    | _, _ => M.stuck
  else match ds with
    | [e] => one e.w fun d => opt (biD x [d])
    | es => many (asM es) fun ds => opt (biD x ds)
def viewM (m : Str) (o : Den) : M (List D) := o.d.bind fun d => opt (match d with
  | .dct kvs => if m == "items" then some (kvs.map fun p => .tup [p.1, p.2]) else some (kvs.map (·.2))
  | _ => none)
/-- m is a method of what u is -/
def kindM (m : Str) : D → Bool
  | .lst _ => methT m == "list"
  | .str _ => methT m == "str"
  | _ => false
def plainMeth (m : Str) (o : Den) (es : List Den) : M O := o.a.bind fun x => one (M.pure x) fun u0 => if kindM m u0 then (asM es).bind fun as => fun s => match x.get s with
  | some u => (match gets s as with
    | some ds => opt (methD m u ds) s
    | none => .st)
  | none => .st
  else M.stuck
def mutM (m : Str) (i : Nat) (es : List Den) : M O := fun s => match getO s i with
  | some (.lst _) => ((dsM es).bind fun ds => fun s => match getO s i with
      | some u => match mutD m u ds with
        | some (u', d) => .ok (.frz d) (s.set i (some u'))
        | none => .st
      | none => .st) s
  | _ => .st
def insMeth (m : Str) (o : Den) (es : List Den) : M O := match o.var with
  | some i => fun s => match getO s i with
      | some (.ins c _) => ((csM es ((C.lent (c ++ "." ++ m)).drop 1)).bind fun as => doCall C (c ++ "." ++ m) (.plc i :: as)) s
      | _ => .st
  | none => M.stuck
def methM (m : Str) (o : Den) (es : List Den) : M O :=
  if isMut m then match o.var with
    | some i => mutM m i es
    | none => M.stuck
  else if isPl m then plainMeth m o es else insMeth C m o es
def callM (x : Str) (es : List Den) : M O := (csM es (C.lent x)).bind fun as => doCall C x as
def calleM (f : Den) (es : List Den) : M O := f.a.bind fun x => match x with
  | .val (.fn g) => if C.ar g = some es.length then (csM es (C.lent g)).bind fun as => doCall C g as else M.stuck
  | _ => M.stuck
def attrM (o : Den) (m : Str) : M O := match o.var with
  | some i => fun s => match getO s i with
    | some (.ins _ fs) => (opt (fs.lookup m)).bind constD s
    | some (.exc _ (some (f, n))) => if f == m then .ok (.frz (.int n)) s else .st
    | _ => .st
  | none => M.stuck
def attrG (o : Den) (m : Str) (v : O) : M Unit := match o.var, frzO v with
  | some j, some d => fun s => match getO s j with
    | some (.ins c fs) => .ok () (s.set j (some (.ins c (if (fs.lookup m).isSome then fs.map fun p => if p.1 == m then (p.1, d) else p else fs ++ [(m, d)]))))
    | _ => .st
  | _, _ => M.stuck
def subG (o i : Den) (v : O) : M Unit := match o.var, frzO v with
  | some j, some d => i.a.bind fun a => fun s => match a.get s, getO s j with
    | some k, some u => match setIn u k d with
      | some u' => .ok () (s.set j (some u'))
      | none => .st
    | _, _ => .st
  | _, _ => M.stuck
def varG (i : Nat) (o : O) : M Unit := fun s => if i < s.length then .ok () (s.set i (some o)) else .st
def asgns : List Den → List D → M Unit
  | [], [] => M.pure ()
  | t :: ts, d :: ds => (t.g (.frz d)).bind fun _ => asgns ts ds
  | _, _ => M.stuck
def tupG (ts : List Den) (o : O) : M Unit := match o with
  | .frz (.tup xs) => if ts.length = xs.length then asgns ts xs else M.stuck
  | _ => M.stuck
def slcM (a : Den) (lo hi : Option Den) : M O := a.a.bind fun x => (oM lo).bind fun l => (oM hi).bind fun h => fun s => match x.get s with
  | some u => opt (slcD u l h) s
  | none => .st
def ifsM : List Den → M Bool
  | [] => M.pure true
  | e :: r => e.t.bind fun b => if b then ifsM r else M.pure false
def lcM (own : List Nat) (el tg : Den) (ifs : List Den) : List D → List D → M O
  | [], acc => (wipeM own).bind fun _ => M.pure (.lst acc)
  | x :: xs, acc => (wipeM own).bind fun _ => (tg.g (.frz x)).bind fun _ => (ifsM ifs).bind fun b => if b then el.d.bind fun d => lcM own el tg ifs xs (acc ++ [d]) else lcM own el tg ifs xs acc
def lciM (el tg : Den) (ifs : List Den) : List D → List D → M (List D)
  | [], acc => M.pure acc
  | x :: xs, acc => (tg.g (.frz x)).bind fun _ => (ifsM ifs).bind fun b => if b then el.d.bind fun d => lciM el tg ifs xs (acc ++ [d]) else lciM el tg ifs xs acc
def lc2M (own own2 : List Nat) (el tg tg2 it2 : Den) (ifs2 : List Den) : List D → List D → M (List D)
  | [], acc => (wipeM own).bind fun _ => M.pure acc
  | x :: xs, acc => (wipeM own).bind fun _ => (tg.g (.frz x)).bind fun _ => it2.it.bind fun ys => (lciM el tg2 ifs2 ys acc).bind fun acc => lc2M own own2 el tg tg2 it2 ifs2 xs acc
def dcM (own : List Nat) (k v tg : Den) (ifs : List Den) : List D → List (D × D) → M (List (D × D))
  | [], acc => (wipeM own).bind fun _ => M.pure acc
  | x :: xs, acc => (wipeM own).bind fun _ => (tg.g (.frz x)).bind fun _ => (ifsM ifs).bind fun b => if b then k.d.bind fun a => v.d.bind fun d => if keyOk a then dcM own k v tg ifs xs (dput acc a d) else M.stuck
      else dcM own k v tg ifs xs acc
/-- a comprehension's block: its own names are new in it; no exception leaves it -/
def blkM {α : Type} (own : List Nat) (m : M α) : M α := fun s0 => match m s0 with
  | .ok a s' => .ok a (backE own s0 s')
  | _ => .st
def few {α : Type} (xs : List D) (m : M α) : M α := if decide (xs.length ≤ LIM) then m else M.stuck
def isM1 : Option E → Bool
  | some (.neg (.int 1 _ _) _) => true
  | _ => false

mutual
def den : E → Den
  | .non _ _ => mkV (constD .non)
  | .bl b _ _ => mkV (constD (.bl b))
  | .int i _ _ => mkV (constD (.int i))
  | .str z _ _ => mkV (constD (.str z))
  | .var i _ _ => ⟨(freezeVar i).bind constD, fun s => match getO s i with
      | some (.frz d) => .ok (.val d) s
      | some _ => .ok (.plc i) s
      | none => .st, tOf fun s => match getO s i with
      | some (.frz d) => .ok (.val d) s
      | some _ => .ok (.plc i) s
      | none => .st, itOf ((freezeVar i).bind constD), fun s => match getO s i with
      | some (.frz d) => .ok (.val d) s
      | some _ => .ok (.plc i) s
      | none => .st, varG i, some i, false, []⟩
  | .glb x _ => mkV ((opt (C.con x)).bind constD)
  | .bin op a b _ => mkV (two (den a).a (den b).a fun u v => opt (binD op u v))
  | .neg a _ => mkV (one (den a).a fun u => match u with
    | .int i => constD (.int (-i))
    | _ => M.stuck)
  | .nt a _ => mkT (blM ((tOf (den a).a).bind fun b => M.pure (!b))) ((den a).t.bind fun b => M.pure (!b))
  | .band es _ => mkT ((andM (dens es)).bind constD) (tsM true (dens es))
  | .bor es _ => mkT ((orM (dens es)).bind constD) (tsM false (dens es))
  | .cmp op a b _ => mkT (blM (two (den a).a (den b).a fun u v => opt (cmpD op u v))) (two (den a).a (den b).a fun u v => opt (cmpD op u v))
  | .chn op1 op2 a b c _ => mkT (blM (chnT op1 op2 (den a).a (den b).a (den c).a)) (chnT op1 op2 (den a).a (den b).a (den c).a)
  | .chn3 op1 op2 op3 a b c d _ => mkT (blM (chn3T op1 op2 op3 (den a).a (den b).a (den c).a (den d).a)) (chn3T op1 op2 op3 (den a).a (den b).a (den c).a (den d).a)
  | .ife c a b _ => mkV ((den c).t.bind fun t => if t then (den a).v else (den b).v)
  | .call x es _ _ => mkV (callM C x (dens es))
  | .bi x es _ _ => if isWalk x then mkI M.stuck (walkM x (dens es)) ((walkM x (dens es)).bind fun ds => M.pure (.val (.lst ds))) else mkV (biM C x es (dens es))
  | .calle f es _ => mkV (calleM C (den f) (dens es))
  | .meth o m es _ _ => if m == "items" || m == "values" then mkI M.stuck (viewM m (den o)) ((viewM m (den o)).bind fun ds => M.pure (.val (.lst ds)))
      else mkV (methM C m (den o) (dens es))
  | .attr o m _ => mkG (attrM (den o) m) (attrG (den o) m)
  | .sub a i _ => mkG (two (den a).a (den i).a fun u v => (opt (subD u v)).bind constD) (subG (den a) (den i))
  | .slc a lo hi st _ _ => mkV (match st with
    | none => slcM (den a) (denO lo) (denO hi)
    | some e => if isM1 (some e) && lo.isNone && hi.isNone then one (den a).a fun u => opt (revD u) else M.stuck)
  | .lst es _ => mkV ((spM (dens es)).bind fun ds => M.pure (.lst ds))
  | .tup es _ _ => ⟨(spM (dens es)).bind fun ds => constD (.tup ds), aOf ((spM (dens es)).bind fun ds => constD (.tup ds)), tOf (aOf ((spM (dens es)).bind fun ds => constD (.tup ds))),
      itOf ((spM (dens es)).bind fun ds => constD (.tup ds)), aOf ((spM (dens es)).bind fun ds => constD (.tup ds)), tupG (dens es), none, false, dens es⟩
  | .star e _ => { (den e) with star := true }
  | .dic ks vs _ => mkV ((kvM (dens ks) (dens vs)).bind fun kvs => M.pure (.dct (kvs.foldl (fun m p => dput m p.1 p.2) [])))
  | .lc el tg it ifs own _ _ => mkV ((den it).it.bind fun xs => few xs (blkM own (lcM own (den el) (den tg) (dens ifs) xs [])))
  | .lc2 el tg it tg2 it2 ifs2 own _ _ => mkV ((den it).it.bind fun xs => few xs (blkM own ((lc2M own [] (den el) (den tg) (den tg2) (den it2) (dens ifs2) xs []).bind fun ds => M.pure (.lst ds))))
  | .dc k v tg it ifs own _ _ => mkV ((den it).it.bind fun xs => few xs (blkM own ((dcM own (den k) (den v) (den tg) (dens ifs) xs []).bind fun ds => M.pure (.dct ds))))
def dens : List E → List Den
  | [] => []
  | e :: r => den e :: dens r
def denO : Option E → Option Den
  | none => none
  | some e => some (den e)
end

/-! ### statements -/
inductive SR where
  | nx | rt (o : O) | bk | ct
def seqM (a b : M SR) : M SR := a.bind fun r => match r with
  | .nx => b
  | r => M.pure r
/-- a loop over items -/
def forM (g : O → M Unit) (b : M SR) : List D → M SR
  | [] => M.pure .nx
  | x :: xs => (g (.frz x)).bind fun _ => b.bind fun r => match r with
    | .nx => forM g b xs
    | .ct => forM g b xs
    | .bk => M.pure .nx
    | .rt o => M.pure (.rt o)
def whileM (c : M Bool) (b : M SR) : Nat → M SR
  | 0 => M.stuck
  | n + 1 => c.bind fun t => if t then b.bind fun r => match r with
      | .nx => whileM c b n
      | .ct => whileM c b n
      | .bk => M.pure .nx
      | .rt o => M.pure (.rt o)
    else M.pure .nx
/-- return: what a variable owns goes out with it -/
def retM (e : Den) : M SR := match e.var with
  | some i => fun s => match getO s i with
    | some o => .ok (.rt o) (s.set i none)
    | none => .st
  | none => e.v.bind fun o => M.pure (.rt o)
def valsM : List Den → M (List O)
  | [] => M.pure []
  | e :: r => if e.star then M.stuck else e.v.bind fun o => (valsM r).bind fun os => M.pure (o :: os)
def asgnO : List Den → List O → M Unit
  | [], [] => M.pure ()
  | t :: ts, o :: os => (t.g o).bind fun _ => asgnO ts os
  | _, _ => M.stuck
/-- a = e; a tuple's items to a tuple's targets, each as its own -/
def asgM (t e : Den) (par : Bool) : M SR := if par then (valsM e.kids).bind fun os => (asgnO t.kids os).bind fun _ => M.pure .nx
  else e.v.bind fun o => (t.g o).bind fun _ => M.pure .nx
def augM (t : Den) (op : Bop) (e : Den) (sub : Option (Den × Den)) (fld : Option (Nat × Str)) : M SR := match t.var, sub, fld with
  | some i, _, _ => fun s => match getO s i with
    | some (.frz u) => (one e.a fun v => (opt (binD op u v)).bind fun o => (varG i o).bind fun _ => M.pure .nx) s
    | _ => .st
  | none, some (o, k), _ => match o.var with
    | some j => k.a.bind fun a => fun s => match a.get s, getO s j with
      | some kd, some u => match subD u.d kd with
        | some x => (one e.a fun v => (opt (binD op x v)).bind fun r => (opt (frzO r)).bind fun r => fun s => match getO s j with
          | some u => match setIn u kd r with
            | some u' => .ok .nx (s.set j (some u'))
            | none => .st
          | none => .st) s
        | none => .st
      | _, _ => .st
    | none => M.stuck
  | none, none, some (j, m) => fun s => match getO s j with
    | some (.ins _ fs) => match fs.lookup m with
      | some x => (one e.a fun v => (opt (binD op x v)).bind fun r => (opt (frzO r)).bind fun r => fun s => match getO s j with
        | some (.ins c fs) => .ok .nx (s.set j (some (.ins c (fs.map fun p => if p.1 == m then (p.1, r) else p))))
        | _ => .st) s
      | none => .st
    | _ => .st
  | _, _, _ => M.stuck
def raisM (x : Str) (es : List Den) : M SR := (dsM es).bind fun ds => fun s => match ds, C.fld x with
  | [.str _], none => .ex ⟨x, none⟩ s
  | [.int n], some f => .ex ⟨x, some (f, n)⟩ s
  | _, _ => .st
def noExc (s : Env) : Bool := s.all fun o => match o with
  | some (.exc _ _) => false
  | _ => true
def noExcR : SR → Bool
  | .rt (.exc _ _) => false
  | _ => true
def tryM (b : M SR) (x : Str) (n : Option Nat) (h : M SR) : M SR := fun s => match b s with
  | .ok r s' => .ok r s'
  | .st => .st
  | .ex e s' => if C.cls e.c then (if C.sub e.c x then (if noExc s' then match n with
      | none => (match h s' with
        | .ok r s2 => if noExc s2 && noExcR r then .ok r s2 else .st
        | _ => .st)
      | some i => if i < s'.length then (match h (s'.set i (some (.exc e.c e.arg))) with
        | .ok r s2 => if noExc (s2.set i none) && noExcR r then .ok r (s2.set i none) else .st
        | _ => .st)
        else .st
      else .st)
    else .ex e s') else .st
def isTup2 : E → E → Bool
  | .tup ts _ _, .tup es _ _ => ts.length == es.length
  | _, _ => false
def subOf : E → Option (E × E)
  | .sub o k _ => some (o, k)
  | _ => none
def fldOf : E → Option (Nat × Str)
  | .attr (.var i _ _) m _ => some (i, m)
  | _ => none
mutual
def exS : S → M SR
  | .asg t e _ => asgM (den C t) (den C e) (isTup2 t e)
  | .aug t op e _ => augM (den C t) op (den C e) ((subOf t).map fun p => (den C p.1, den C p.2)) (fldOf t)
  | .ret e _ => retM (den C e)
  | .retn _ => M.pure (.rt (.frz .non))
  | .ifs c a b _ => (den C c).t.bind fun t => if t then exSs a else exSs b
  | .fors t it b _ => (den C it).it.bind fun xs => forM (den C t).g (exSs b) xs
  | .whl c b _ => whileM (den C c).t (exSs b) C.wf
  | .brk _ => M.pure .bk
  | .cnt _ => M.pure .ct
  | .pas _ => M.pure .nx
  | .expr e _ => (den C e).v.bind fun _ => M.pure .nx
  | .rais x es _ _ _ => raisM C x (dens C es)
  | .tryx b x _ n h _ _ => tryM C (exSs b) x (n.map (·.1)) (exSs h)
def exSs : List S → M SR
  | [] => M.pure .nx
  | x :: r => seqM (exS x) (exSs r)
end

/-! ### defs, programs -/
structure Fn where
  x : Str
  np : Nat
  ns : List Str
  lent : List Bool
  body : List S
def outs (s : Env) : List O → List Bool → Nat → Option (List O)
  | [], _, _ => some []
  | o :: os, fs, i => (if o.own then (if fs.headD false then (getO s i).bind fun u => if u.own then some u else none else none) else some o).bind fun u => (outs s os fs.tail (i + 1)).map (u :: ·)
def runFn (f : Fn) (args : List O) : FR :=
  if args.length = f.np then match exSs C f.body (args.map some ++ List.replicate (f.ns.length - f.np) none) with
    | .ok r s => match Z.outs s args f.lent 0 with
      | some os => match r with
        | .rt o => .ok o os
        | .nx => .ok (.frz .non) os
        | _ => .st
      | none => .st
    | .ex e s => match Z.outs s args f.lent 0 with
      | some os => .ex e os
      | none => .st
    | .st => .st
  else .st
def kf (x : Str) (f : Fn) : Str × Fn := (x, f)
def kd (x : Str) (d : D) : Str × D := (x, d)
def ks (x y : Str) : Str × Str := (x, y)
structure Prog where
  fns : List (Str × Fn)
  con : List (Str × D)
  sup : List (Str × Str)
  fld : List (Str × Str)
  wf : Nat
def supOf (sup : List (Str × Str)) : Nat → Str → Str → Bool
  | 0, a, b => a == b
  | n + 1, a, b => a == b || match sup.lookup a with
    | some c => supOf sup n c b
    | none => false
def Prog.cxt (P : Prog) (call : Str → List O → FR) : Cxt where
  call := call
  con := fun x => P.con.lookup x
  lent := fun x => match P.fns.lookup x with
    | some f => f.lent
    | none => []
  sub := supOf P.sup 6
  cls := fun x => (P.sup.lookup x).isSome
  fld := fun x => P.fld.lookup x
  ar := fun x => (P.fns.lookup x).map (·.np)
  wf := P.wf
def Prog.call (P : Prog) : Nat → Str → List O → FR
  | 0 => fun _ _ => .st
  | n + 1 => fun x args => match P.fns.lookup x with
    | some f => runFn (P.cxt (P.call n)) f args
    | none => match P.fns.lookup (x ++ ".__init__") with
      | some f => match runFn (P.cxt (P.call n)) f (.ins x [] :: args) with
        | .ok _ (o :: os) => .ok o os
        | .ex e (_ :: os) => .ex e os
        | _ => .st
      | none => .st
end Z
end

section
set_option Elab.async false
set_option linter.all false
set_option maxRecDepth 100000
set_option maxHeartbeats 1000000
/-! ZRel: what a value of ours is on the abstract heap; what is owned; how both stay. -/
namespace Z
open PySem L2

/-- what the text has: the written part, the module's names; the handled exception (its address, class, own dict), where one is -/
structure G where
  K : PySem.W.Frag
  mg : Str → Option Value
  w : World
  hx : Option (Addr × Addr × Option Addr)
  scr : Addr → Prop

def fnV (g : G) (x : Str) (v : V) : Prop := (∃ a, g.mg x = some (.ref a) ∧ v = .ref a) ∨ (g.mg x = none ∧ ∃ n, bootBuiltins x = some (.type n) ∧ v = .ty n)
/-- a key of ours, a key of the layer's -/
def keyR : D → Key → Prop
  | .int i, k => k = .inl i
  | .str s, k => k = .inr s
  | _, _ => False
def keysR : List D → List Key → Prop
  | [], ks => ks = []
  | d :: r, ks => ∃ k ks', ks = k :: ks' ∧ keyR d k ∧ keysR r ks'
def tkeyR : D → List Key → Prop
  | .tup ds, ks => keysR ds ks
  | _, _ => False

section
variable (g : G) (F : Hp)
mutual
/-- v is the frozen d, by what F tells -/
def Rp : D → V → Prop
  | .non, v => v = .non
  | .bl b, v => v = .bl b
  | .int i, v => v = .int i
  | .str s, v => v = .str s ∧ s.length ≤ LIM
  | .tup ds, v => ∃ a xs, v = .ref a ∧ SqT g.K F a xs ∧ Rps ds xs
  | .lst ds, v => ∃ a xs, v = .ref a ∧ F a = some (.lst xs) ∧ ¬ g.scr a ∧ Rps ds xs
  | .dct kvs, v => ∃ a, v = .ref a ∧ ((∃ l, F a = some (.dK l) ∧ RpK kvs l) ∨ (kvs ≠ [] ∧ ∃ l, F a = some (.dT l) ∧ RpT kvs l) ∨ (kvs ≠ [] ∧ (∃ es n, KDict g.K g.w a es n) ∧ (∀ z : Str, ∃ r, PySem.W.nsIn g.K a z = some r ∧ (r.isSome = true → ∃ d, (D.str z, d) ∈ kvs)) ∧ RpW a kvs))
  | .fn x, v => fnV g x v
  | .scr ns, v => ∃ a, v = .ref a ∧ F a = some (.lst (ns.map V.int))
def Rps : List D → List V → Prop
  | [], xs => xs = []
  | d :: r, xs => ∃ x xs', xs = x :: xs' ∧ Rp d x ∧ Rps r xs'
def RpK : List (D × D) → List (Key × V) → Prop
  | [], l => l = []
  | (k, d) :: r, l => ∃ k' v l', l = (k', v) :: l' ∧ keyR k k' ∧ Rp d v ∧ RpK r l'
def RpT : List (D × D) → List (List Key × V) → Prop
  | [], l => l = []
  | (k, d) :: r, l => ∃ k' v l', l = (k', v) :: l' ∧ tkeyR k k' ∧ Rp d v ∧ RpT r l'
/-- a written dict with texts as keys -/
def RpW (a : Addr) : List (D × D) → Prop
  | [] => True
  | (k, d) :: r => (∃ z u v, k = .str z ∧ PySem.W.nsIn g.K a z = some (some u) ∧ RelV v u ∧ Rp d v) ∧ RpW a r
end
end
/-- F' tells all that F tells -/
def Ext (F F' : Hp) : Prop := ∀ a o, F a = some o → F' a = some o
theorem Ext.refl (F : Hp) : Ext F F := fun _ _ h => h
theorem Ext.trans {F F1 F2 : Hp} (a : Ext F F1) (b : Ext F1 F2) : Ext F F2 := fun x o h => b x o (a x o h)
theorem Ext.upd {F : Hp} {p : Addr} {o : HO} (h : F p = none) : Ext F (upd F p o) := fun a u e => by
  by_cases q : a = p
  · subst q; rw [h] at e; cases e
  · rw [upd_ne q]; exact e
section
variable {g : G} {F F' : Hp}
theorem sqT_ext (e : Ext F F') {a : Addr} {xs : List V} (h : SqT g.K F a xs) : SqT g.K F' a xs := by
  rcases h with (h | ⟨o, h⟩) | h
  · exact .inl (.inl (e _ _ h))
  · exact .inl (.inr ⟨o, e _ _ h⟩)
  · exact .inr h
theorem sqL_ext (e : Ext F F') {a : Addr} {xs : List V} (h : SqL g.K F a xs) : SqL g.K F' a xs := by
  rcases h with (h | ⟨o, h⟩) | h
  · exact .inl (.inl (e _ _ h))
  · exact .inl (.inr ⟨o, e _ _ h⟩)
  · exact .inr h
mutual
theorem Rp.ext (e : Ext F F') : ∀ (d : D) (v : V), Rp g F d v → Rp g F' d v
  | .non, _, h => by simpa only [Rp] using h
  | .bl _, _, h => by simpa only [Rp] using h
  | .int _, _, h => by simpa only [Rp] using h
  | .str _, _, h => by simpa only [Rp] using h
  | .tup ds, v, h => by
    simp only [Rp] at h ⊢
    obtain ⟨a, xs, e1, h1, h2⟩ := h
    exact ⟨a, xs, e1, sqT_ext e h1, Rps.ext e ds xs h2⟩
  | .lst ds, v, h => by
    simp only [Rp] at h ⊢
    obtain ⟨a, xs, e1, h1, n1, h2⟩ := h
    exact ⟨a, xs, e1, e _ _ h1, n1, Rps.ext e ds xs h2⟩
  | .dct kvs, v, h => by
    simp only [Rp] at h ⊢
    obtain ⟨a, e1, h⟩ := h
    refine ⟨a, e1, ?_⟩
    rcases h with ⟨l, h1, h2⟩ | ⟨h0, l, h1, h2⟩ | ⟨h0, h1, h2, h3⟩
    · exact .inl ⟨l, e _ _ h1, RpK.ext e kvs l h2⟩
    · exact .inr (.inl ⟨h0, l, e _ _ h1, RpT.ext e kvs l h2⟩)
    · exact .inr (.inr ⟨h0, h1, h2, RpW.ext e a kvs h3⟩)
  | .fn _, _, h => by simpa only [Rp] using h
  | .scr ns, v, h => by
    simp only [Rp] at h ⊢
    obtain ⟨a, e1, h1⟩ := h
    exact ⟨a, e1, e _ _ h1⟩
theorem Rps.ext (e : Ext F F') : ∀ (ds : List D) (xs : List V), Rps g F ds xs → Rps g F' ds xs
  | [], _, h => by simpa only [Rps] using h
  | d :: r, xs, h => by
    simp only [Rps] at h ⊢
    obtain ⟨x, xs', e1, h1, h2⟩ := h
    exact ⟨x, xs', e1, Rp.ext e d x h1, Rps.ext e r xs' h2⟩
theorem RpK.ext (e : Ext F F') : ∀ (kvs : List (D × D)) (l : List (Key × V)), RpK g F kvs l → RpK g F' kvs l
  | [], _, h => by simpa only [RpK] using h
  | (k, d) :: r, l, h => by
    simp only [RpK] at h ⊢
    obtain ⟨k', v, l', e1, h1, h2, h3⟩ := h
    exact ⟨k', v, l', e1, h1, Rp.ext e d v h2, RpK.ext e r l' h3⟩
theorem RpT.ext (e : Ext F F') : ∀ (kvs : List (D × D)) (l : List (List Key × V)), RpT g F kvs l → RpT g F' kvs l
  | [], _, h => by simpa only [RpT] using h
  | (k, d) :: r, l, h => by
    simp only [RpT] at h ⊢
    obtain ⟨k', v, l', e1, h1, h2, h3⟩ := h
    exact ⟨k', v, l', e1, h1, Rp.ext e d v h2, RpT.ext e r l' h3⟩
theorem RpW.ext (e : Ext F F') (a : Addr) : ∀ (kvs : List (D × D)), RpW g F a kvs → RpW g F' a kvs
  | [], h => by simp only [RpW]
  | (k, d) :: r, h => by
    simp only [RpW] at h ⊢
    obtain ⟨⟨z, u, v, e1, h1, h2, h3⟩, h4⟩ := h
    exact ⟨⟨z, u, v, e1, h1, h2, Rp.ext e d v h3⟩, RpW.ext e a r h4⟩
end
theorem Rps.nil : Rps g F [] [] := by simp only [Rps]
theorem Rps.cons {d : D} {x : V} {ds : List D} {xs : List V} (h : Rp g F d x) (r : Rps g F ds xs) : Rps g F (d :: ds) (x :: xs) := by
  simp only [Rps]; exact ⟨x, xs, rfl, h, r⟩
theorem Rps.inv {d : D} {ds : List D} {xs : List V} (h : Rps g F (d :: ds) xs) : ∃ x xs', xs = x :: xs' ∧ Rp g F d x ∧ Rps g F ds xs' := by
  simpa only [Rps] using h
theorem Rps.nil_inv {xs : List V} (h : Rps g F [] xs) : xs = [] := by simpa only [Rps] using h
theorem Rps.length : ∀ {ds : List D} {xs : List V}, Rps g F ds xs → ds.length = xs.length
  | [], _, h => by rw [h.nil_inv] <;> rfl
  | d :: r, xs, h => by
    obtain ⟨x, xs', rfl, _, h2⟩ := h.inv
    simp [Rps.length h2]
theorem Rps.get : ∀ {ds : List D} {xs : List V} {i : Nat} {d : D}, Rps g F ds xs → ds[i]? = some d → ∃ x, xs[i]? = some x ∧ Rp g F d x
  | [], _, _, _, _, e => by simp at e
  | d :: r, xs, 0, d', h, e => by
    obtain ⟨x, xs', rfl, h1, _⟩ := h.inv
    have e' : d = d' := by simpa using e
    subst e'
    exact ⟨x, rfl, h1⟩
  | d :: r, xs, i + 1, d', h, e => by
    obtain ⟨x, xs', rfl, _, h2⟩ := h.inv
    obtain ⟨y, e1, h3⟩ := Rps.get (i := i) h2 (by simpa using e)
    exact ⟨y, by simpa using e1, h3⟩
theorem Rps.append : ∀ {ds es : List D} {xs ys : List V}, Rps g F ds xs → Rps g F es ys → Rps g F (ds ++ es) (xs ++ ys)
  | [], _, _, _, h, h' => by rw [h.nil_inv]; exact h'
  | d :: r, _, xs, _, h, h' => by
    obtain ⟨x, xs', rfl, h1, h2⟩ := h.inv
    exact Rps.cons h1 (Rps.append h2 h')
theorem Rps.take : ∀ {ds : List D} {xs : List V} (n : Nat), Rps g F ds xs → Rps g F (ds.take n) (xs.take n)
  | _, _, 0, _ => by simp only [List.take_zero]; exact .nil
  | [], _, n + 1, h => by rw [h.nil_inv]; exact .nil
  | d :: r, xs, n + 1, h => by
    obtain ⟨x, xs', rfl, h1, h2⟩ := h.inv
    exact Rps.cons h1 (Rps.take n h2)
theorem Rps.drop : ∀ {ds : List D} {xs : List V} (n : Nat), Rps g F ds xs → Rps g F (ds.drop n) (xs.drop n)
  | _, _, 0, h => h
  | [], _, n + 1, h => by rw [h.nil_inv]; exact .nil
  | d :: r, xs, n + 1, h => by
    obtain ⟨x, xs', rfl, h1, h2⟩ := h.inv
    exact Rps.drop n h2
theorem Rps.set : ∀ {ds : List D} {xs : List V} (j : Nat) {d : D} {x : V}, Rps g F ds xs → Rp g F d x → Rps g F (ds.set j d) (xs.set j x)
  | [], _, _, _, _, h, _ => by rw [h.nil_inv]; exact .nil
  | e :: r, xs, 0, _, _, h, hx => by
    obtain ⟨x, xs', rfl, h1, h2⟩ := h.inv
    exact Rps.cons hx h2
  | e :: r, xs, j + 1, _, _, h, hx => by
    obtain ⟨x, xs', rfl, h1, h2⟩ := h.inv
    exact Rps.cons h1 (Rps.set j h2 hx)
theorem Rps.reverse : ∀ {ds : List D} {xs : List V}, Rps g F ds xs → Rps g F ds.reverse xs.reverse
  | [], _, h => by rw [h.nil_inv]; exact .nil
  | d :: r, xs, h => by
    obtain ⟨x, xs', rfl, h1, h2⟩ := h.inv
    rw [List.reverse_cons, List.reverse_cons]
    exact (Rps.reverse h2).append (Rps.cons h1 .nil)
theorem Rps.of_get : ∀ {ds : List D} {xs : List V}, ds.length = xs.length → (∀ (i : Nat) d x, ds[i]? = some d → xs[i]? = some x → Rp g F d x) → Rps g F ds xs
  | [], [], _, _ => .nil
  | [], _ :: _, e, _ => by simp at e
  | _ :: _, [], e, _ => by simp at e
  | d :: r, x :: xs, e, h => Rps.cons (h 0 d x rfl rfl) (Rps.of_get (by simpa using e) fun i d x h1 h2 => h (i + 1) d x (by simpa using h1) (by simpa using h2))

/-! ### what is owned -/
def fldsR (g : G) (F : Hp) : List (Str × D) → List (Str × V) → Prop
  | [], l => l = []
  | (f, d) :: r, l => ∃ v l', l = (f, v) :: l' ∧ Rp g F d v ∧ fldsR g F r l'
theorem fldsR.ext (e : Ext F F') : ∀ {fs : List (Str × D)} {l : List (Str × V)}, fldsR g F fs l → fldsR g F' fs l
  | [], _, h => h
  | (f, d) :: r, l, h => by
    obtain ⟨v, l', e1, h1, h2⟩ := h
    exact ⟨v, l', e1, h1.ext e _ _, fldsR.ext e h2⟩
/-- v is o; L: what it alone has -/
def Ow (g : G) (F H : Hp) : O → V → List Addr → Prop
  | .frz d, v, L => Rp g F d v ∧ L = []
  | .lst ds, v, L => ∃ a xs, v = .ref a ∧ L = [a] ∧ H a = some (.lst xs) ∧ F a = none ∧ ¬ g.scr a ∧ Rps g F ds xs
  | .dct kvs, v, L => ∃ a, v = .ref a ∧ L = [a] ∧ F a = none ∧ ((∃ l, H a = some (.dK l) ∧ RpK g F kvs l) ∨ (kvs ≠ [] ∧ ∃ l, H a = some (.dT l) ∧ RpT g F kvs l))
  | .ins c fs, v, L => ∃ a C dx l, v = .ref a ∧ L = [a, dx] ∧ g.mg c = some (.ref C) ∧ H a = some (.ins C dx l) ∧ H dx = some (.own a) ∧ F a = none ∧ F dx = none ∧ fldsR g F fs l
  | .exc c arg, v, L => L = [] ∧ ∃ a C d, g.hx = some (a, C, d) ∧ v = .ref a ∧ g.mg c = some (.ref C) ∧
      match arg with
      | none => d = none
      | some (f, n) => ∃ dd, d = some dd ∧ F dd = some (.xd [(f, .int n)])
/-- what F may tell of an object -/
def plainO : HO → Bool
  | .lst _ => true
  | .tup _ => true
  | .dK _ => true
  | .dT _ => true
  | .xd _ => true
  | _ => false

structure Sim (g : G) (F : Hp) (env : Env) (σ : L2.St) (H : Hp) (fp : Nat → List Addr) : Prop where
  sub : ∀ a o, F a = some o → Rd H a o
  pl : ∀ a o, F a = some o → plainO o = true
  /-- a list stands as it is, but for the script's -/
  ls : ∀ a xs, F a = some (.lst xs) → ¬ g.scr a → H a = some (.lst xs)
  scu : ∀ a, g.scr a → H a ≠ none
  len : env.length = σ.length
  slot : ∀ (i : Nat) (o : O), env[i]? = some (some o) → ∃ v, σ[i]? = some (some v) ∧ Ow g F H o v (fp i)
  emp : ∀ i : Nat, (∀ o, env[i]? ≠ some (some o)) → fp i = []
  dis : ∀ (i j : Nat) a, a ∈ fp i → a ∈ fp j → i = j
def wf (fp : Nat → List Addr) (a : Addr) : Prop := ∃ i, a ∈ fp i

/-- from F, H to F', H': what is frozen stays, what stands stays but for W, what is newly frozen is new or of W -/
structure Fr (W : Addr → Prop) (F H F' H' : Hp) : Prop where
  ext : Ext F F'
  keep : ∀ a o, H a = some o → ¬ W a → H' a = some o
  dom : ∀ a, F' a ≠ none → F a ≠ none ∨ H a = none ∨ W a
  /-- an address once in use stays so -/
  used : ∀ a, H a ≠ none → H' a ≠ none
theorem Fr.refl {W : Addr → Prop} {F H : Hp} : Fr W F H F H := ⟨Ext.refl F, fun _ _ h _ => h, fun _ h => .inl h, fun _ h => h⟩
theorem Fr.trans {W W1 : Addr → Prop} {F H F1 H1 F2 H2 : Hp} (a : Fr W F H F1 H1) (b : Fr W1 F1 H1 F2 H2) (w : ∀ x, W1 x → W x ∨ H x = none) : Fr W F H F2 H2 where
  ext := a.ext.trans b.ext
  keep := fun x o h n => b.keep x o (a.keep x o h n) fun h1 => (w x h1).elim n fun h2 => by rw [h] at h2; cases h2
  dom := fun x h => by
    rcases b.dom x h with h | h | h
    · exact a.dom x h
    · refine .inr (.inl ?_)
      cases q : H x with
      | none => rfl
      | some o => exact absurd h (a.used x (by rw [q]; simp))
    · exact (w x h).elim (fun z => .inr (.inr z)) fun z => .inr (.inl z)
  used := fun x h => b.used x (a.used x h)
theorem Fr.mono {W W1 : Addr → Prop} {F H F' H' : Hp} (a : Fr W F H F' H') (w : ∀ x, W x → W1 x ∨ H x = none) : Fr W1 F H F' H' :=
  Fr.trans (W := W1) (F1 := F) (H1 := H) Fr.refl a w
/-- what is read off H -/
theorem rd_H {H : Hp} {sub : ∀ a o, F a = some o → Rd H a o} (pl : ∀ a o, F a = some o → plainO o = true) {a : Addr} {o : HO} (h : F a = some o) : Rd H a o := sub a o h
theorem sqL_H {H : Hp} (sub : ∀ a o, F a = some o → Rd H a o) (pl : ∀ a o, F a = some o → plainO o = true) {a : Addr} {xs : List V} (h : SqL g.K F a xs) : SqL g.K H a xs := by
  rcases h with (h | ⟨o, h⟩) | h
  · exact .inl (sub _ _ h)
  · exact absurd (pl _ _ h) (by simp [plainO])
  · exact .inr h
theorem sqT_H {H : Hp} (sub : ∀ a o, F a = some o → Rd H a o) (pl : ∀ a o, F a = some o → plainO o = true) {a : Addr} {xs : List V} (h : SqT g.K F a xs) : SqT g.K H a xs := by
  rcases h with (h | ⟨o, h⟩) | h
  · exact .inl (sub _ _ h)
  · exact absurd (pl _ _ h) (by simp [plainO])
  · exact .inr h
theorem Sim.sqL {env : Env} {σ : L2.St} {H : Hp} {fp : Nat → List Addr} (S : Sim g F env σ H fp) {a : Addr} {xs : List V} (h : SqL g.K F a xs) : SqL g.K H a xs := sqL_H S.sub S.pl h
theorem Sim.sqT {env : Env} {σ : L2.St} {H : Hp} {fp : Nat → List Addr} (S : Sim g F env σ H fp) {a : Addr} {xs : List V} (h : SqT g.K F a xs) : SqT g.K H a xs := sqT_H S.sub S.pl h
/-- what is owned elsewhere stays -/
theorem Ow.fr {W : Addr → Prop} {H H' : Hp} {o : O} {v : V} {L : List Addr} (h : Ow g F H o v L) (f : Fr W F H F' H') (n : ∀ a ∈ L, ¬ W a) : Ow g F' H' o v L := by
  have fn : ∀ a, a ∈ L → F a = none → H a ≠ none → F' a = none := fun a ha e1 e2 => by
    cases q : F' a with
    | none => rfl
    | some u =>
      rcases f.dom a (by rw [q]; simp) with z | z | z
      · exact absurd e1 z
      · exact absurd z e2
      · exact absurd z (n a ha)
  cases o with
  | frz d => exact ⟨Rp.ext f.ext _ _ h.1, h.2⟩
  | lst ds =>
    obtain ⟨a, xs, rfl, rfl, h1, h2, hn, h3⟩ := h
    have m : a ∈ [a] := List.mem_cons_self
    exact ⟨a, xs, rfl, rfl, f.keep a _ h1 (n a m), fn a m h2 (by rw [h1]; simp), hn, h3.ext f.ext⟩
  | dct kvs =>
    obtain ⟨a, rfl, rfl, h2, h3⟩ := h
    have m : a ∈ [a] := List.mem_cons_self
    rcases h3 with ⟨l, h1, h3⟩ | ⟨h0, l, h1, h3⟩
    · exact ⟨a, rfl, rfl, fn a m h2 (by rw [h1]; simp), .inl ⟨l, f.keep a _ h1 (n a m), h3.ext f.ext⟩⟩
    · exact ⟨a, rfl, rfl, fn a m h2 (by rw [h1]; simp), .inr ⟨h0, l, f.keep a _ h1 (n a m), h3.ext f.ext⟩⟩
  | ins c fs =>
    obtain ⟨a, C, dx, l, rfl, rfl, h1, h2, h3, h4, h5, h6⟩ := h
    have m : a ∈ [a, dx] := List.mem_cons_self
    have m2 : dx ∈ [a, dx] := List.mem_cons_of_mem _ List.mem_cons_self
    exact ⟨a, C, dx, l, rfl, rfl, h1, f.keep a _ h2 (n a m), f.keep dx _ h3 (n dx m2), fn a m h4 (by rw [h2]; simp), fn dx m2 h5 (by rw [h3]; simp), h6.ext f.ext⟩
  | exc c arg =>
    obtain ⟨e, a, C, d, h1, h2, h3, h4⟩ := h
    refine ⟨e, a, C, d, h1, h2, h3, ?_⟩
    cases arg with
    | none => exact h4
    | some p =>
      obtain ⟨dd, e1, e2⟩ := h4
      exact ⟨dd, e1, f.ext _ _ e2⟩
/-- what is owned is not frozen, and is in use -/
theorem Ow.at {H : Hp} {o : O} {v : V} {L : List Addr} (h : Ow g F H o v L) {a : Addr} (ha : a ∈ L) : F a = none ∧ H a ≠ none := by
  cases o with
  | frz d => rw [h.2] at ha; simp at ha
  | lst ds =>
    obtain ⟨b, xs, rfl, rfl, h1, h2, _, h3⟩ := h
    have e : a = b := by simpa using ha
    subst e
    exact ⟨h2, by rw [h1]; simp⟩
  | dct kvs =>
    obtain ⟨b, rfl, rfl, h2, h3⟩ := h
    have e : a = b := by simpa using ha
    subst e
    refine ⟨h2, ?_⟩
    rcases h3 with ⟨l, h1, _⟩ | ⟨_, l, h1, _⟩ <;> (rw [h1]; simp)
  | ins c fs =>
    obtain ⟨b, C, dx, l, rfl, rfl, h1, h2, h3, h4, h5, h6⟩ := h
    have e : a = b ∨ a = dx := by simpa using ha
    rcases e with rfl | rfl
    · exact ⟨h4, by rw [h2]; simp⟩
    · exact ⟨h5, by rw [h3]; simp⟩
  | exc c arg => rw [h.1] at ha; simp at ha
end
/-! the handled exception does not matter to data -/
section
variable {g : G} {F : Hp} {hx' : Option (Addr × Addr × Option Addr)}
mutual
theorem Rp.hx : ∀ {d : D} {v : V}, Rp g F d v → Rp ⟨g.K, g.mg, g.w, hx', g.scr⟩ F d v
  | .non, _, h => by simpa only [Rp] using h
  | .bl _, _, h => by simpa only [Rp] using h
  | .int _, _, h => by simpa only [Rp] using h
  | .str _, _, h => by simpa only [Rp] using h
  | .tup ds, v, h => by
    simp only [Rp] at h ⊢
    obtain ⟨a, xs, e1, h1, h2⟩ := h
    exact ⟨a, xs, e1, h1, Rps.hx h2⟩
  | .lst ds, v, h => by
    simp only [Rp] at h ⊢
    obtain ⟨a, xs, e1, h1, n1, h2⟩ := h
    exact ⟨a, xs, e1, h1, n1, Rps.hx h2⟩
  | .dct kvs, v, h => by
    simp only [Rp] at h ⊢
    obtain ⟨a, e1, h⟩ := h
    refine ⟨a, e1, ?_⟩
    rcases h with ⟨l, h1, h2⟩ | ⟨h0, l, h1, h2⟩ | ⟨h0, h1, h2, h3⟩
    · exact .inl ⟨l, h1, RpK.hx h2⟩
    · exact .inr (.inl ⟨h0, l, h1, RpT.hx h2⟩)
    · exact .inr (.inr ⟨h0, h1, h2, RpW.hx h3⟩)
  | .fn _, _, h => by
    simp only [Rp] at h ⊢
    exact h
  | .scr ns, v, h => by
    simp only [Rp] at h ⊢
    exact h
theorem Rps.hx : ∀ {ds : List D} {xs : List V}, Rps g F ds xs → Rps ⟨g.K, g.mg, g.w, hx', g.scr⟩ F ds xs
  | [], _, h => by simpa only [Rps] using h
  | d :: r, xs, h => by
    simp only [Rps] at h ⊢
    obtain ⟨x, xs', e1, h1, h2⟩ := h
    exact ⟨x, xs', e1, Rp.hx h1, Rps.hx h2⟩
theorem RpK.hx : ∀ {kvs : List (D × D)} {l : List (Key × V)}, RpK g F kvs l → RpK ⟨g.K, g.mg, g.w, hx', g.scr⟩ F kvs l
  | [], _, h => by simpa only [RpK] using h
  | (k, d) :: r, l, h => by
    simp only [RpK] at h ⊢
    obtain ⟨k', v, l', e1, h1, h2, h3⟩ := h
    exact ⟨k', v, l', e1, h1, Rp.hx h2, RpK.hx h3⟩
theorem RpT.hx : ∀ {kvs : List (D × D)} {l : List (List Key × V)}, RpT g F kvs l → RpT ⟨g.K, g.mg, g.w, hx', g.scr⟩ F kvs l
  | [], _, h => by simpa only [RpT] using h
  | (k, d) :: r, l, h => by
    simp only [RpT] at h ⊢
    obtain ⟨k', v, l', e1, h1, h2, h3⟩ := h
    exact ⟨k', v, l', e1, h1, Rp.hx h2, RpT.hx h3⟩
theorem RpW.hx {a : Addr} : ∀ {kvs : List (D × D)}, RpW g F a kvs → RpW ⟨g.K, g.mg, g.w, hx', g.scr⟩ F a kvs
  | [], h => by simp only [RpW]
  | (k, d) :: r, h => by
    simp only [RpW] at h ⊢
    obtain ⟨⟨z, u, v, e1, h1, h2, h3⟩, h4⟩ := h
    exact ⟨⟨z, u, v, e1, h1, h2, Rp.hx h3⟩, RpW.hx h4⟩
end
theorem fldsR.hx : ∀ {fs : List (Str × D)} {l : List (Str × V)}, fldsR g F fs l → fldsR ⟨g.K, g.mg, g.w, hx', g.scr⟩ F fs l
  | [], _, h => h
  | (f, d) :: r, l, h => by
    obtain ⟨v, l', e1, h1, h2⟩ := h
    exact ⟨v, l', e1, Rp.hx h1, fldsR.hx h2⟩
end
end Z
end

section
set_option Elab.async false
set_option linter.all false
set_option maxRecDepth 100000
set_option maxHeartbeats 1000000
/-! ZSim: readings by the evaluator; how they are put together. -/
namespace Z
open PySem L2

/-- an abstract state: what is frozen, the variables, what each of them has -/
structure Ab where
  F : Hp
  env : Env
  fp : Nat → List Addr
abbrev Sm (g : G) (A : Ab) (σ : L2.St) (H : Hp) : Prop := Sim g A.F A.env σ H A.fp
structure Step (g : G) (A : Ab) (H : Hp) (B : Ab) (σ : L2.St) (H' : Hp) : Prop where
  fr : Fr (wf A.fp) A.F H B.F H'
  sim : Sm g B σ H'
  sb : ∀ a, wf B.fp a → wf A.fp a ∨ H a = none
theorem Step.refl {g : G} {A : Ab} {σ : L2.St} {H : Hp} (S : Sm g A σ H) : Step g A H A σ H := ⟨.refl, S, fun _ h => .inl h⟩
theorem Fr.none_back {W : Addr → Prop} {F H F' H' : Hp} (f : Fr W F H F' H') {a : Addr} (h : H' a = none) : H a = none := by
  cases q : H a with
  | none => rfl
  | some o => exact absurd h (f.used a (by rw [q]; simp))
theorem Step.trans {g : G} {A B C : Ab} {σ σ' : L2.St} {H H1 H2 : Hp} (s : Step g A H B σ H1) (t : Step g B H1 C σ' H2) : Step g A H C σ' H2 :=
  ⟨s.fr.trans t.fr s.sb, t.sim, fun a h => (t.sb a h).elim (s.sb a) fun z => .inr (s.fr.none_back z)⟩
/-- what an exception is: its own dict, where it has a field -/
def XO (x : Ex) (d : Option Addr) (F : Hp) : Prop := match x.arg with
  | none => d = none
  | some (f, n) => ∃ dd, d = some dd ∧ F dd = some (.xd [(f, .int n)])
/-- a result, and what follows; W: what is wished of an exception -/
def Go {α : Type} (g : G) (W : WX) (σ : L2.St) (A : Ab) (H : Hp) (r : R α) (k : α → Ab → Hp → Prop) : Prop := match r with
  | .ok a env' => ∀ B H', B.env = env' → Step g A H B σ H' → k a B H'
  | .ex x env' => ∀ B H' d C, B.env = env' → Step g A H B σ H' → XO x d B.F → g.mg x.c = some (.ref C) → W (.ref C) d σ H'
  | .st => False
section
variable {α β : Type} {g : G} {W : WX} {σ : L2.St} {A : Ab} {H : Hp}
theorem Go.mono {r : R α} {k k' : α → Ab → Hp → Prop} (h : Go g W σ A H r k) (hk : ∀ a B H', Step g A H B σ H' → k a B H' → k' a B H') : Go g W σ A H r k' := by
  cases r with
  | ok a s => exact fun B H' e st => hk a B H' st (h B H' e st)
  | ex x s => exact h
  | st => exact h
theorem Go.split {m : M α} {f : α → M β} {k : β → Ab → Hp → Prop} (h : Go g W σ A H ((M.bind m f) A.env) k) : Go g W σ A H (m A.env) fun a B H1 => Go g W σ B H1 (f a B.env) k := by
  unfold M.bind at h
  cases e : m A.env with
  | ok a s =>
    rw [e] at h
    intro B H1 eB st
    subst eB
    dsimp only at h
    cases e2 : f a B.env with
    | ok b s2 =>
      rw [e2] at h
      exact fun C H2 eC st2 => h C H2 eC (st.trans st2)
    | ex x s2 =>
      rw [e2] at h
      exact fun C H2 d Cl eC st2 xo hm => h C H2 d Cl eC (st.trans st2) xo hm
    | st => rw [e2] at h; exact h.elim
  | ex x s => rw [e] at h; exact h
  | st => rw [e] at h; exact h.elim
/-- a result that is there already, from here -/
theorem Go.here {a : α} {s : Env} {k : α → Ab → Hp → Prop} (S : Sm g A σ H) (e : A.env = s) (h : Go g W σ A H (.ok a s) k) : k a A H := h A H e (.refl S)
theorem Go.pure {a : α} {k : α → Ab → Hp → Prop} (S : Sm g A σ H) (h : Go g W σ A H (M.pure a A.env) k) : k a A H := h A H rfl (.refl S)
theorem Go.opt {o : Option α} {k : α → Ab → Hp → Prop} (S : Sm g A σ H) (h : Go g W σ A H (opt o A.env) k) : ∃ a, o = some a ∧ k a A H := by
  cases o with
  | none => exact h.elim
  | some a => exact ⟨a, rfl, h A H rfl (.refl S)⟩
theorem Go.optB {o : Option α} {f : α → M β} {k : β → Ab → Hp → Prop} (h : Go g W σ A H ((M.bind (Z.opt o) f) A.env) k) : ∃ a, o = some a ∧ Go g W σ A H (f a A.env) k := by
  cases o with
  | none => exact h.elim
  | some a => exact ⟨a, rfl, h⟩
end

/-! ### readings -/
def RepA (g : G) (σ : L2.St) (B : Ab) : A → V → Prop
  | .val d, v => Rp g B.F d v
  | .plc i, v => σ[i]? = some (some v)
def RepAs (g : G) (σ : L2.St) (B : Ab) : List A → List V → Prop
  | [], vs => vs = []
  | a :: r, vs => ∃ v vs', vs = v :: vs' ∧ RepA g σ B a v ∧ RepAs g σ B r vs'
/-- own, fresh: apart from what the variables have -/
def Apt (A : Ab) (H : Hp) (B : Ab) (L : List Addr) : Prop := (∀ a ∈ L, ¬ wf B.fp a) ∧ ∀ a ∈ L, wf A.fp a ∨ H a = none
def RdV (g : G) (W : WX) (m : M O) : TE := fun σ H Q => ∃ A, Sm g A σ H ∧ Go g W σ A H (m A.env) fun o B H' => ∀ v L, Ow g B.F H' o v L → Apt A H B L → Q v H'
def RdA (g : G) (W : WX) (m : M A) : TE := fun σ H Q => ∃ A, Sm g A σ H ∧ Go g W σ A H (m A.env) fun a B H' => ∀ v, RepA g σ B a v → Q v H'
def RdT (g : G) (W : WX) (m : M Bool) : TT := fun σ H Q => ∃ A, Sm g A σ H ∧ Go g W σ A H (m A.env) fun b B H' => Q b H'
def RdAs (g : G) (W : WX) (m : M (List A)) : TA := fun σ H Q => ∃ A, Sm g A σ H ∧ Go g W σ A H (m A.env) fun as B H' => ∀ vs, RepAs g σ B as vs → Q vs H'

section
variable {g : G} {W : WX} {σ : L2.St} {A : Ab} {H : Hp}
/-! ### how the relation is kept -/
theorem wf_upd {fp : Nat → List Addr} {i : Nat} {L : List Addr} {a : Addr} (h : wf (fun j => if j = i then L else fp j) a) : wf fp a ∨ a ∈ L := by
  obtain ⟨j, hj⟩ := h
  by_cases e : j = i
  · simp only [e, if_true] at hj; exact .inr hj
  · simp only [e, if_false] at hj; exact .inl ⟨j, hj⟩
/-- a new frozen object -/
theorem Sim.newF {F : Hp} {env : Env} {fp : Nat → List Addr} (S : Sim g F env σ H fp) {p : Addr} {o : HO} (hp : H p = none) (ho : plainO o = true) : Sim g (upd F p o) env σ (upd H p o) fp := by
  have Fp : F p = none := by
    cases q : F p with
    | none => rfl
    | some u =>
      rcases S.sub _ _ q with z | ⟨_, z⟩ <;> (rw [hp] at z; cases z)
  have f : Fr (fun _ => False) F H (upd F p o) (upd H p o) := ⟨Ext.upd Fp, fun a u h _ => Ext.upd hp a u h, fun a h => by
      by_cases e : a = p
      · exact .inr (.inl (by rw [e]; exact hp))
      · rw [upd_ne e] at h; exact .inl h, fun a h => by
      by_cases e : a = p
      · rw [e, hp] at h; exact absurd rfl h
      · rw [upd_ne e]; exact h⟩
  refine ⟨fun a u h => ?_, fun a u h => ?_, fun a xs h ns => ?_, fun a h => f.used a (S.scu a h), S.len, fun i u h => ?_, S.emp, S.dis⟩
  · by_cases e : a = p
    · subst e; rw [upd_same] at h; cases h; exact .inl upd_same
    · rw [upd_ne e] at h
      rcases S.sub a u h with z | ⟨w, z⟩
      · exact .inl (by rw [upd_ne e]; exact z)
      · exact .inr ⟨w, by rw [upd_ne e]; exact z⟩
  · by_cases e : a = p
    · subst e; rw [upd_same] at h; cases h; exact ho
    · rw [upd_ne e] at h; exact S.pl a u h
  · by_cases e : a = p
    · subst e; rw [upd_same] at h; cases h; exact upd_same
    · rw [upd_ne e] at h; rw [upd_ne e]; exact S.ls a xs h ns
  · obtain ⟨v, h1, h2⟩ := S.slot i u h
    exact ⟨v, h1, h2.fr f fun _ _ z => z⟩
theorem newF_step (S : Sm g A σ H) {p : Addr} {o : HO} (hp : H p = none) (ho : plainO o = true) : Step g A H ⟨upd A.F p o, A.env, A.fp⟩ σ (upd H p o) := by
  have Fp : A.F p = none := by
    cases q : A.F p with
    | none => rfl
    | some u =>
      rcases S.sub _ _ q with z | ⟨_, z⟩ <;> (rw [hp] at z; cases z)
  refine ⟨⟨Ext.upd Fp, fun a u h _ => Ext.upd hp a u h, fun a h => ?_, fun a h => ?_⟩, S.newF hp ho, fun _ h => .inl h⟩
  · by_cases e : a = p
    · exact .inr (.inl (by rw [e]; exact hp))
    · have h' : upd A.F p o a ≠ none := h
      rw [upd_ne e] at h'; exact .inl h'
  · by_cases e : a = p
    · rw [e, hp] at h; exact absurd rfl h
    · rw [upd_ne e]; exact h
/-- a new object that nobody has yet -/
theorem newH_step (S : Sm g A σ H) {p : Addr} {o : HO} (hp : H p = none) : Step g A H A σ (upd H p o) := by
  have f : ∀ W : Addr → Prop, Fr W A.F H A.F (upd H p o) := fun W => ⟨Ext.refl _, fun a u h _ => Ext.upd hp a u h, fun a h => .inl h, fun a h => by
    by_cases e : a = p
    · rw [e, hp] at h; exact absurd rfl h
    · rw [upd_ne e]; exact h⟩
  refine ⟨f _, ⟨fun a u h => ?_, S.pl, fun a xs h ns => Ext.upd hp a _ (S.ls a xs h ns), fun a h => (f fun _ => False).used a (S.scu a h), S.len, fun i u h => ?_, S.emp, S.dis⟩, fun _ h => .inl h⟩
  · have e : a ≠ p := fun z => by
      rcases S.sub a u h with q | ⟨_, q⟩ <;> (rw [z, hp] at q; cases q)
    rcases S.sub a u h with z | ⟨w, z⟩
    · exact .inl (by rw [upd_ne e]; exact z)
    · exact .inr ⟨w, by rw [upd_ne e]; exact z⟩
  · obtain ⟨v, h1, h2⟩ := S.slot i u h
    exact ⟨v, h1, h2.fr (f fun _ => False) fun _ _ z => z⟩
/-- a variable takes a value -/
theorem Sim.set {F : Hp} {env : Env} {fp : Nat → List Addr} (S : Sim g F env σ H fp) {i : Nat} {o : O} {v : V} {L : List Addr} (hi : i < env.length) (h : Ow g F H o v L) (ap : ∀ a ∈ L, ∀ j, j ≠ i → a ∉ fp j) :
    Sim g F (env.set i (some o)) (σ.set i (some v)) H fun j => if j = i then L else fp j := by
  refine ⟨S.sub, S.pl, S.ls, S.scu, by simpa using S.len, fun j u e => ?_, fun j e => ?_, fun j k a h1 h2 => ?_⟩
  · by_cases hj : j = i
    · subst hj
      rw [List.getElem?_set_self hi] at e
      cases e
      have hi' : j < σ.length := by rw [← S.len]; exact hi
      refine ⟨v, by rw [List.getElem?_set_self hi'], ?_⟩
      simp only [if_true]; exact h
    · rw [List.getElem?_set_ne (Ne.symm hj)] at e
      obtain ⟨w, h1, h2⟩ := S.slot j u e
      refine ⟨w, by rw [List.getElem?_set_ne (Ne.symm hj)]; exact h1, ?_⟩
      simp only [hj, if_false]; exact h2
  · by_cases hj : j = i
    · subst hj
      exact absurd (List.getElem?_set_self hi) (e o)
    · simp only [hj, if_false]
      refine S.emp j fun u z => e u ?_
      rw [List.getElem?_set_ne (Ne.symm hj)]; exact z
  · by_cases hj : j = i <;> by_cases hk : k = i
    · rw [hj, hk]
    · simp only [hj, if_true] at h1; simp only [hk, if_false] at h2; exact absurd h2 (ap a h1 k hk)
    · simp only [hj, if_false] at h1; simp only [hk, if_true] at h2; exact absurd h1 (ap a h2 j hj)
    · simp only [hj, if_false] at h1; simp only [hk, if_false] at h2; exact S.dis j k a h1 h2
/-- a variable is forgotten, its slot as it may be -/
theorem Sim.drop {F : Hp} {env : Env} {fp : Nat → List Addr} (S : Sim g F env σ H fp) (i : Nat) (x : Option V) : Sim g F (env.set i none) (σ.set i x) H fun j => if j = i then [] else fp j := by
  refine ⟨S.sub, S.pl, S.ls, S.scu, by simpa using S.len, fun j u e => ?_, fun j e => ?_, fun j k a h1 h2 => ?_⟩
  · by_cases hj : j = i
    · subst hj
      by_cases hl : j < env.length
      · rw [List.getElem?_set_self hl] at e; cases e
      · rw [List.getElem?_eq_none (by simpa using hl)] at e; cases e
    · rw [List.getElem?_set_ne (Ne.symm hj)] at e
      obtain ⟨w, h1, h2⟩ := S.slot j u e
      refine ⟨w, by rw [List.getElem?_set_ne (Ne.symm hj)]; exact h1, ?_⟩
      simp only [hj, if_false]; exact h2
  · by_cases hj : j = i
    · simp only [hj, if_true]
    · simp only [hj, if_false]
      refine S.emp j fun u z => e u ?_
      rw [List.getElem?_set_ne (Ne.symm hj)]; exact z
  · by_cases hj : j = i
    · simp [hj] at h1
    · by_cases hk : k = i
      · simp [hk] at h2
      · simp only [hj, if_false] at h1; simp only [hk, if_false] at h2; exact S.dis j k a h1 h2
/-- what is owned is frozen: F tells of it from now on -/
theorem Ow.freeze {F : Hp} {o : O} {v : V} {L : List Addr} {d : D} (h : Ow g F H o v L) (e : frzO o = some d) : ∃ F', Ext F F' ∧ Rp g F' d v ∧ (∀ a u, F' a = some u → F a = some u ∨ (a ∈ L ∧ H a = some u ∧ plainO u = true)) := by
  cases o with
  | frz d' =>
    have e' : d' = d := by simpa [frzO, O.d] using e
    subst e'
    exact ⟨F, Ext.refl F, h.1, fun a u q => .inl q⟩
  | lst ds =>
    obtain ⟨a, xs, rfl, rfl, h1, h2, hn, h3⟩ := h
    have e' : D.lst ds = d := by simpa [frzO, O.d] using e
    subst e'
    refine ⟨upd F a (.lst xs), Ext.upd h2, ?_, fun b u q => ?_⟩
    · simp only [Rp]
      exact ⟨a, xs, rfl, upd_same, hn, h3.ext (Ext.upd h2)⟩
    · by_cases hb : b = a
      · subst hb; rw [upd_same] at q; cases q; exact .inr ⟨List.mem_cons_self, h1, rfl⟩
      · rw [upd_ne hb] at q; exact .inl q
  | dct kvs =>
    obtain ⟨a, rfl, rfl, h2, h3⟩ := h
    have e' : D.dct kvs = d := by simpa [frzO, O.d] using e
    subst e'
    rcases h3 with ⟨l, h1, h3⟩ | ⟨h0, l, h1, h3⟩
    · refine ⟨upd F a (.dK l), Ext.upd h2, ?_, fun b u q => ?_⟩
      · simp only [Rp]
        exact ⟨a, rfl, .inl ⟨l, upd_same, h3.ext (Ext.upd h2)⟩⟩
      · by_cases hb : b = a
        · subst hb; rw [upd_same] at q; cases q; exact .inr ⟨List.mem_cons_self, h1, rfl⟩
        · rw [upd_ne hb] at q; exact .inl q
    · refine ⟨upd F a (.dT l), Ext.upd h2, ?_, fun b u q => ?_⟩
      · simp only [Rp]
        exact ⟨a, rfl, .inr (.inl ⟨h0, l, upd_same, h3.ext (Ext.upd h2)⟩)⟩
      · by_cases hb : b = a
        · subst hb; rw [upd_same] at q; cases q; exact .inr ⟨List.mem_cons_self, h1, rfl⟩
        · rw [upd_ne hb] at q; exact .inl q
  | ins c fs => cases e
  | exc c a => cases e
/-- a value that is the taker's alone is frozen -/
theorem freeze_step (S : Sm g A σ H) {o : O} {v : V} {L : List Addr} {d : D} (h : Ow g A.F H o v L) (e : frzO o = some d) (ap : ∀ a ∈ L, ¬ wf A.fp a) :
    ∃ F', Rp g F' d v ∧ Sim g F' A.env σ H A.fp ∧ Fr (fun a => a ∈ L) A.F H F' H := by
  obtain ⟨F', ex, r, dm⟩ := h.freeze e
  have f : Fr (fun a => a ∈ L) A.F H F' H := ⟨ex, fun a u q _ => q, fun a q => by
    cases z : F' a with
    | none => exact absurd z q
    | some u =>
      rcases dm a u z with z | z
      · exact .inl (by rw [z]; simp)
      · exact .inr (.inr z.1), fun _ q => q⟩
  refine ⟨F', r, ⟨fun a u q => ?_, fun a u q => ?_, fun a xs q ns => ?_, S.scu, S.len, fun i u q => ?_, S.emp, S.dis⟩, f⟩
  · rcases dm a u q with z | ⟨_, z, _⟩
    · exact S.sub a u z
    · exact .inl z
  · rcases dm a u q with z | ⟨_, _, z⟩
    · exact S.pl a u z
    · exact z
  · rcases dm a _ q with z | ⟨_, z, _⟩
    · exact S.ls a xs z ns
    · exact z
  · obtain ⟨w, h1, h2⟩ := S.slot i u q
    exact ⟨w, h1, h2.fr f fun a ha z => ap a z ⟨i, ha⟩⟩
/-- what a variable owns is frozen where it stands -/
theorem freezeVar_step (S : Sm g A σ H) {i : Nat} {o : O} {d : D} (e : A.env[i]? = some (some o)) (e2 : frzO o = some d) :
    ∃ (B : Ab) (v : V), B.env = A.env.set i (some (.frz d)) ∧ Step g A H B σ H ∧ σ[i]? = some (some v) ∧ Rp g B.F d v := by
  obtain ⟨v, h1, h2⟩ := S.slot i o e
  obtain ⟨F', ex, r, dm⟩ := h2.freeze e2
  have hi : i < A.env.length := (List.getElem?_eq_some_iff.mp e).1
  have f : Fr (fun a => a ∈ A.fp i) A.F H F' H := ⟨ex, fun a u q _ => q, fun a q => by
    cases z : F' a with
    | none => exact absurd z q
    | some u =>
      rcases dm a u z with z | z
      · exact .inl (by rw [z]; simp)
      · exact .inr (.inr z.1), fun _ q => q⟩
  have es : σ.set i (some v) = σ := by
    apply List.ext_getElem?
    intro j
    by_cases hj : i = j
    · subst hj
      have hi' : i < σ.length := by rw [← S.len]; exact hi
      rw [List.getElem?_set_self hi', h1]
    · rw [List.getElem?_set_ne hj]
  refine ⟨⟨F', A.env.set i (some (.frz d)), fun j => if j = i then [] else A.fp j⟩, v, rfl, ⟨f.mono fun x hx => .inl ⟨i, hx⟩, ?_, fun a ha => ?_⟩, h1, r⟩
  · show Sim g F' _ σ H _
    refine ⟨fun a u q => ?_, fun a u q => ?_, fun a xs q ns => ?_, S.scu, by simpa using S.len, fun j u q => ?_, fun j q => ?_, fun j k a m1 m2 => ?_⟩
    · rcases dm a u q with z | ⟨_, z, _⟩
      · exact S.sub a u z
      · exact .inl z
    · rcases dm a u q with z | ⟨_, _, z⟩
      · exact S.pl a u z
      · exact z
    · rcases dm a _ q with z | ⟨_, z, _⟩
      · exact S.ls a xs z ns
      · exact z
    · by_cases hj : j = i
      · subst hj
        have q' : (A.env.set j (some (.frz d)))[j]? = some (some u) := q
        rw [List.getElem?_set_self hi] at q'
        cases q'
        refine ⟨v, h1, ?_⟩
        simp only [if_true]; exact ⟨r, rfl⟩
      · have q' : (A.env.set i (some (.frz d)))[j]? = some (some u) := q
        rw [List.getElem?_set_ne (Ne.symm hj)] at q'
        obtain ⟨w, h3, h4⟩ := S.slot j u q'
        refine ⟨w, h3, ?_⟩
        simp only [hj, if_false]
        exact h4.fr f fun a ha z => hj (S.dis j i a ha z)
    · by_cases hj : j = i
      · simp only [hj, if_true]
      · simp only [hj, if_false]
        refine S.emp j fun u z => q u ?_
        show (A.env.set i (some (.frz d)))[j]? = some (some u)
        rw [List.getElem?_set_ne (Ne.symm hj)]; exact z
    · by_cases hj : j = i
      · simp [hj] at m1
      · by_cases hk : k = i
        · simp [hk] at m2
        · simp only [hj, if_false] at m1; simp only [hk, if_false] at m2; exact S.dis j k a m1 m2
  · obtain ⟨j, hj⟩ := ha
    by_cases hj' : j = i
    · simp [hj'] at hj
    · simp only [hj', if_false] at hj; exact .inl ⟨j, hj⟩
theorem getO_some {s : Env} {i : Nat} {o : O} (h : getO s i = some o) : s[i]? = some (some o) := by
  unfold getO at h
  cases e : s[i]? with
  | none => rw [e] at h; cases h
  | some x => rw [e] at h; cases x <;> simp_all
theorem getO_of {s : Env} {i : Nat} {o : O} (h : s[i]? = some (some o)) : getO s i = some o := by unfold getO; rw [h] <;> rfl
end
end Z
end

section
set_option Elab.async false
set_option linter.all false
set_option maxRecDepth 100000
set_option maxHeartbeats 1000000
/-! ZExpr: expressions. -/
namespace Z
open PySem L2

/-- what is known through a whole def: the handled exception, the script's place -/
abbrev gOf (X : Cx) (hx : Option (Addr × Addr × Option Addr) × (Addr → Prop)) : G := ⟨X.K, X.mg, X.w, hx.1, hx.2⟩
theorem PE.weak {X : Cx} {e : Expr} {t t' : TE} (h : PE X e t) (m : ∀ σ H Q, t' σ H Q → t σ H Q) : PE X e t' := ⟨fun pins s σ H Q I q => h.run pins s σ H Q I (m σ H Q q)⟩
theorem PT.weak {X : Cx} {e : Expr} {t t' : TT} (h : PT X e t) (m : ∀ σ H Q, t' σ H Q → t σ H Q) : PT X e t' := ⟨fun pins s σ H Q I q => h.run pins s σ H Q I (m σ H Q q)⟩
theorem PA.weak {X : Cx} {e : List Expr} {t t' : TA} (h : PA X e t) (m : ∀ σ H Q, t' σ H Q → t σ H Q) : PA X e t' := ⟨fun pos pins s σ H Q I q => h.run pos pins s σ H Q I (m σ H Q q)⟩
theorem PS.weak {X : Cx} {e : Stmt} {t t' : TS} (h : PS X e t) (m : ∀ D σ H, t' D σ H → t D σ H) : PS X e t' := ⟨fun pins s σ H D I q => h.run pins s σ H D I (m D σ H q)⟩
theorem PSs.weak {X : Cx} {e : List Stmt} {t t' : TS} (h : PSs X e t) (m : ∀ D σ H, t' D σ H → t D σ H) : PSs X e t' := ⟨fun pins s σ H D I q => h.run pins s σ H D I (m D σ H q)⟩

section
variable {α β : Type} {g : G} {W : WX} {σ : L2.St} {A : Ab} {H : Hp}
/-- what follows m may be taken up from any state that the run so far may have led to -/
theorem Go.after {m : M α} {f : α → M β} {k : β → Ab → Hp → Prop} (h : Go g W σ A H ((M.bind m f) A.env) k) :
    Go g W σ A H (m A.env) fun a B _ => ∀ (C : Ab) (H1 : Hp), C.env = B.env → Step g A H C σ H1 → Go g W σ C H1 (f a C.env) k := by
  have h2 := h
  unfold M.bind at h
  cases e : m A.env with
  | ok a s =>
    rw [e] at h
    intro B H1 eB st C H2 eC st2
    have e3 : C.env = s := eC.trans eB
    have h3 := Go.split h2
    rw [e] at h3
    exact h3 C H2 e3 st2
  | ex x s => rw [e] at h; exact h
  | st => rw [e] at h; exact h.elim
/-- an operand's data as it is read now -/
def Lk (g : G) (F H : Hp) : D → V → Prop
  | .lst ds, v => ∃ a xs, v = .ref a ∧ H a = some (.lst xs) ∧ ¬ g.scr a ∧ Rps g F ds xs
  | .dct kvs, v => ∃ a, v = .ref a ∧ ((∃ l, Rd H a (.dK l) ∧ RpK g F kvs l) ∨ (kvs ≠ [] ∧ ∃ l, Rd H a (.dT l) ∧ RpT g F kvs l) ∨ (kvs ≠ [] ∧ (∃ es n, KDict g.K g.w a es n) ∧ (∀ z : Str, ∃ r, PySem.W.nsIn g.K a z = some r ∧ (r.isSome = true → ∃ d, (D.str z, d) ∈ kvs)) ∧ RpW g F a kvs))
  | d, v => Rp g F d v
theorem Sim.lk {F : Hp} {env : Env} {fp : Nat → List Addr} (S : Sim g F env σ H fp) {d : D} {v : V} (h : Rp g F d v) : Lk g F H d v := by
  cases d with
  | lst ds =>
    simp only [Rp] at h
    obtain ⟨a, xs, e, h1, hn, h2⟩ := h
    exact ⟨a, xs, e, S.ls _ _ h1 hn, hn, h2⟩
  | dct kvs =>
    simp only [Rp] at h
    obtain ⟨a, e, h⟩ := h
    refine ⟨a, e, ?_⟩
    rcases h with ⟨l, h1, h2⟩ | ⟨h0, l, h1, h2⟩ | h
    · exact .inl ⟨l, S.sub _ _ h1, h2⟩
    · exact .inr (.inl ⟨h0, l, S.sub _ _ h1, h2⟩)
    · exact .inr (.inr h)
  | _ => exact h
theorem Sim.lkO {F : Hp} {env : Env} {fp : Nat → List Addr} (S : Sim g F env σ H fp) {o : O} {d : D} {v : V} {L : List Addr} (h : Ow g F H o v L) (e : frzO o = some d) : Lk g F H d v := by
  cases o with
  | frz d' =>
    have e' : d' = d := by simpa [frzO, O.d] using e
    subst e'
    exact S.lk h.1
  | lst ds =>
    have e' : D.lst ds = d := by simpa [frzO, O.d] using e
    subst e'
    obtain ⟨a, xs, rfl, rfl, h1, h2, hn, h3⟩ := h
    exact ⟨a, xs, rfl, h1, hn, h3⟩
  | dct kvs =>
    have e' : D.dct kvs = d := by simpa [frzO, O.d] using e
    subst e'
    obtain ⟨a, rfl, rfl, h2, h3⟩ := h
    refine ⟨a, rfl, ?_⟩
    rcases h3 with ⟨l, h1, h3⟩ | ⟨h0, l, h1, h3⟩
    · exact .inl ⟨l, .inl h1, h3⟩
    · exact .inr (.inl ⟨h0, l, .inl h1, h3⟩)
  | ins c fs => cases e
  | exc c a => cases e
/-- an operand, once evaluated, is read at any later state -/
theorem RepA.later {B C : Ab} {H' : Hp} {a : Z.A} {v : V} (h : RepA g σ B a v) (st : Step g B H C σ H') {d : D} (e : a.get C.env = some d) : Lk g C.F H' d v := by
  cases a with
  | val d' =>
    have e' : d' = d := by simpa [A.get] using e
    subst e'
    exact st.sim.lk (Rp.ext st.fr.ext _ _ h)
  | plc i =>
    have h1 : σ[i]? = some (some v) := h
    have e' : (getO C.env i).bind frzO = some d := e
    cases q : getO C.env i with
    | none => rw [q] at e'; cases e'
    | some o =>
      rw [q] at e'
      obtain ⟨v', h3, h4⟩ := st.sim.slot i o (getO_some q)
      rw [h1] at h3
      cases h3
      exact st.sim.lkO h4 e'
theorem RepA.mono {B C : Ab} {H' : Hp} {a : Z.A} {v : V} (h : RepA g σ B a v) (st : Step g B H C σ H') {o : O} (e : a.getO C.env = some o) : ∃ L, Ow g C.F H' o v L := by
  cases a with
  | val d' =>
    have e' : O.frz d' = o := by simpa [A.getO] using e
    subst e'
    exact ⟨[], Rp.ext st.fr.ext _ _ h, rfl⟩
  | plc i =>
    obtain ⟨v', h3, h4⟩ := st.sim.slot i o (getO_some e)
    have h1 : σ[i]? = some (some v) := h
    rw [h1] at h3
    cases h3
    exact ⟨_, h4⟩
end

theorem lim_size : LIM ≤ sizeLine := by rw [sizeLine_eq]; decide
/-! ### modes -/
section
variable {X : Cx} {hx : Option (Addr × Addr × Option Addr) × (Addr → Prop)} {W : WX} {e : Expr}
theorem pe_aOf {m : M O} (h : PE X e (RdV (gOf X hx) W m)) : PE X e (RdA (gOf X hx) W (aOf m)) := PE.weak h fun σ H Q ⟨A, S, q⟩ => by
  refine ⟨A, S, (Go.after q).mono fun o B H' st hB v L ow ap => ?_⟩
  obtain ⟨d, e1, _⟩ := Go.optB (hB B H' rfl st)
  obtain ⟨F', r, sm, f⟩ := freeze_step st.sim ow e1 ap.1
  have st2 : Step (gOf X hx) A H ⟨F', B.env, B.fp⟩ σ H' := ⟨st.fr.trans f ap.2, sm, st.sb⟩
  obtain ⟨d2, e2, q2⟩ := Go.optB (hB ⟨F', B.env, B.fp⟩ H' rfl st2)
  rw [e1] at e2
  cases e2
  exact Go.pure sm q2 v r
/-- a value to be frozen -/
def RdD (g : G) (W : WX) (m : M D) : TE := fun σ H Q => ∃ A, Sm g A σ H ∧ Go g W σ A H (m A.env) fun d B H' => ∀ v, Rp g B.F d v → Q v H'
theorem pe_dOf {m : M O} (h : PE X e (RdV (gOf X hx) W m)) : PE X e (RdD (gOf X hx) W (dOf m)) := PE.weak h fun σ H Q ⟨A, S, q⟩ => by
  refine ⟨A, S, (Go.after q).mono fun o B H' st hB v L ow ap => ?_⟩
  obtain ⟨d, e1, _⟩ := Go.opt st.sim (hB B H' rfl st)
  obtain ⟨F', r, sm, f⟩ := freeze_step st.sim ow e1 ap.1
  have st2 : Step (gOf X hx) A H ⟨F', B.env, B.fp⟩ σ H' := ⟨st.fr.trans f ap.2, sm, st.sb⟩
  obtain ⟨d2, e2, q2⟩ := Go.opt sm (hB ⟨F', B.env, B.fp⟩ H' rfl st2)
  rw [e1] at e2
  cases e2
  exact q2 v r
theorem tru_lk {g : G} {F H : Hp} {env : Env} {σ : L2.St} {fp : Nat → List Addr} (S : Sim g F env σ H fp) {d : D} {v : V} {b : Bool} (h : Lk g F H d v) (e : d.tru = some b) : TruV g.K v H b := by
  cases d with
  | non =>
    have h' : v = .non := by simpa only [Lk, Rp] using h
    subst h'
    cases e
    rfl
  | bl c =>
    have h' : v = .bl c := by simpa only [Lk, Rp] using h
    subst h'
    cases e
    rfl
  | int i =>
    have h' : v = .int i := by simpa only [Lk, Rp] using h
    subst h'
    cases e
    rfl
  | str z =>
    have h' : v = .str z ∧ z.length ≤ LIM := by simpa only [Lk, Rp] using h
    obtain ⟨rfl, hz⟩ := h'
    cases e
    refine ⟨Nat.le_trans hz lim_size, ?_⟩
    cases q : z.length with
    | zero => rfl
    | succ n =>
      have a1 : (n + 1 != 0) = true := bne_iff_ne.mpr (by omega)
      have a2 : (((n + 1 : Nat) : Int) != 0) = true := bne_iff_ne.mpr (by omega)
      rw [a1, a2]
  | tup ds =>
    have h' := h
    simp only [Lk, Rp] at h'
    obtain ⟨a, xs, rfl, h1, h2⟩ := h'
    cases e
    refine .inr (.inl ⟨xs, S.sqT h1, ?_⟩)
    have := h2.length
    cases ds <;> cases xs <;> simp_all
  | lst ds =>
    obtain ⟨a, xs, rfl, h1, _, h2⟩ := h
    cases e
    refine .inl ⟨xs, .of h1, ?_⟩
    have := h2.length
    cases ds <;> cases xs <;> simp_all
  | dct kvs => cases e
  | fn x => cases e
  | scr ns => cases e
end

/-! ### operators -/
section
variable {X : Cx} {hx : Option (Addr × Addr × Option Addr) × (Addr → Prop)} {W : WX} {g : G} {σ : L2.St} {A C : Ab} {H H2 : Hp}
/-- what follows a value o that comes at C, H -/
def Aft (g : G) (σ : L2.St) (C : Ab) (H : Hp) (o : O) (Q : VK) : Prop := ∀ B H' v L, B.env = C.env → Step g C H B σ H' → Ow g B.F H' o v L → Apt C H B L → Q v H'
theorem Apt.back {B : Ab} {L : List Addr} {H1 : Hp} (st : Step g A H C σ H1) (a : Apt C H1 B L) : Apt A H B L :=
  ⟨a.1, fun x hx => (a.2 x hx).elim (st.sb x) fun z => .inr (st.fr.none_back z)⟩
theorem aft_frz {d : D} {v : V} {Q : VK} (S : Sm g C σ H) (h : Aft g σ C H (.frz d) Q) (r : Rp g C.F d v) : Q v H :=
  h C H v [] rfl (.refl S) ⟨r, rfl⟩ ⟨fun _ z => (nomatch z), fun _ z => (nomatch z)⟩
theorem aft_int {i : Int} {Q : VK} (S : Sm g C σ H) (h : Aft g σ C H (.frz (.int i)) Q) : Q (.int i) H := aft_frz S h (by simp only [Rp])
theorem aft_bl {b : Bool} {Q : VK} (S : Sm g C σ H) (h : Aft g σ C H (.frz (.bl b)) Q) : Q (.bl b) H := aft_frz S h (by simp only [Rp])
theorem aft_str {z : Str} {Q : VK} (S : Sm g C σ H) (h : Aft g σ C H (.frz (.str z)) Q) (hz : z.length ≤ LIM) : Q (.str z) H := aft_frz S h (by simp only [Rp, true_and]; exact hz)
theorem aft_tup {ds : List D} {xs : List V} {Q : VK} (S : Sm g C σ H) (h : Aft g σ C H (.frz (.tup ds)) Q) (r : Rps g C.F ds xs) : ∀ p, H p = none → Q (.ref p) (upd H p (.tup xs)) := fun p hp => by
  have st := newF_step S (o := .tup xs) hp rfl
  refine h ⟨upd C.F p (.tup xs), C.env, C.fp⟩ _ (.ref p) [] rfl st ⟨?_, rfl⟩ ⟨fun _ z => (by simp at z), fun _ z => (by simp at z)⟩
  simp only [Rp]
  exact ⟨p, xs, rfl, .of upd_same, r.ext st.fr.ext⟩
theorem noScr (S : Sm g C σ H) {p : Addr} (hp : H p = none) : ¬ g.scr p := fun z => S.scu p z hp
theorem noF (S : Sm g C σ H) {p : Addr} (hp : H p = none) : C.F p = none := by
  cases q : C.F p with
  | none => rfl
  | some u => rcases S.sub _ _ q with z | ⟨_, z⟩ <;> (rw [hp] at z; cases z)
theorem noW (S : Sm g C σ H) {p : Addr} (hp : H p = none) : ¬ wf C.fp p := fun ⟨i, hi⟩ => by
  by_cases e : ∃ o, C.env[i]? = some (some o)
  · obtain ⟨o, ho⟩ := e
    obtain ⟨v, _, h2⟩ := S.slot i o ho
    exact (h2.at hi).2 hp
  · rw [S.emp i fun o ho => e ⟨o, ho⟩] at hi
    simp at hi
theorem aft_lst {ds : List D} {xs : List V} {Q : VK} (S : Sm g C σ H) (h : Aft g σ C H (.lst ds) Q) (r : Rps g C.F ds xs) : ∀ p, H p = none → Q (.ref p) (upd H p (.lst xs)) := fun p hp => by
  refine h C _ (.ref p) [p] rfl (newH_step S hp) ⟨p, xs, rfl, rfl, upd_same, noF S hp, noScr S hp, r⟩ ⟨fun a ha => ?_, fun a ha => ?_⟩
  · have e : a = p := by simpa using ha
    rw [e]; exact noW S hp
  · have e : a = p := by simpa using ha
    rw [e]; exact .inr hp
/-- two operands, then an operation on both -/
theorem Go.two {α : Type} {x y : M Z.A} {kk : D → D → M α} {k : α → Ab → Hp → Prop} (h : Go g W σ A H ((two x y kk) A.env) k) :
    Go g W σ A H (x A.env) fun a B H1 => Go g W σ B H1 (y B.env) fun b C H2 => ∃ u v, a.get C.env = some u ∧ b.get C.env = some v ∧ Go g W σ C H2 (kk u v C.env) k := by
  refine (Go.split h).mono fun a B H1 st h1 => (Go.split h1).mono fun b C H2 st2 h2 => ?_
  have h2' : Go g W σ C H2 (match a.get C.env, b.get C.env with
    | some u, some v => kk u v C.env
    | _, _ => .st) k := h2
  cases e1 : a.get C.env with
  | none => rw [e1] at h2'; exact h2'.elim
  | some u =>
    cases e2 : b.get C.env with
    | none => rw [e1, e2] at h2'; exact h2'.elim
    | some v =>
      rw [e1, e2] at h2'
      exact ⟨u, v, rfl, rfl, h2'⟩
theorem Go.one {α : Type} {x : M Z.A} {kk : D → M α} {k : α → Ab → Hp → Prop} (h : Go g W σ A H ((one x kk) A.env) k) :
    Go g W σ A H (x A.env) fun a C H2 => ∃ u, a.get C.env = some u ∧ Go g W σ C H2 (kk u C.env) k := by
  refine (Go.split h).mono fun a C H2 st h2 => ?_
  have h2' : Go g W σ C H2 (match a.get C.env with
    | some u => kk u C.env
    | none => .st) k := h2
  cases e1 : a.get C.env with
  | none => rw [e1] at h2'; exact h2'.elim
  | some u =>
    rw [e1] at h2'
    exact ⟨u, rfl, h2'⟩
/-- the continuation that RdV asks -/
abbrev KV (g : G) (A : Ab) (H : Hp) (Q : VK) : O → Ab → Hp → Prop := fun o B H' => ∀ v L, Ow g B.F H' o v L → Apt A H B L → Q v H'
/-- at C, behind A -/
theorem KV.aft {o : O} {Q : VK} {s : Env} (st : Step g A H C σ H2) (h : Go g W σ C H2 (.ok o s) (KV g A H Q)) (e : C.env = s) : Aft g σ C H2 o Q := fun B H' v L eB sB ow ap =>
  h B H' (eB.trans e) sB v L ow (ap.back st)
theorem KV.opt {o : Option O} {Q : VK} (st : Step g A H C σ H2) (h : Go g W σ C H2 (opt o C.env) (KV g A H Q)) : ∃ u, o = some u ∧ Aft g σ C H2 u Q := by
  cases o with
  | none => exact h.elim
  | some u => exact ⟨u, rfl, KV.aft st h rfl⟩
theorem KV.const {d : D} {Q : VK} (st : Step g A H C σ H2) (h : Go g W σ C H2 (constD d C.env) (KV g A H Q)) : Aft g σ C H2 (.frz d) Q := KV.aft st h rfl
/-- a two-place operation -/
theorem tOp_two {x y : M Z.A} {kk : D → D → M O} {r : R2} (hr : ∀ u v a b (C : Ab) (H2 : Hp) (Q : VK), Sm g C σ H2 → Lk g C.F H2 u a → Lk g C.F H2 v b → (∀ (A : Ab) (H : Hp), Step g A H C σ H2 → Go g W σ C H2 (kk u v C.env) (KV g A H Q) → r a b H2 Q)) {Q : VK}
    (h : RdV g W (two x y kk) σ H Q) : tOp r (RdA g W x) (RdA g W y) σ H Q := by
  obtain ⟨A, S, q⟩ := h
  refine ⟨A, S, (Go.two q).mono fun a B H1 st hB v1 r1 => ⟨B, st.sim, hB.mono fun b C H2 st2 ⟨u, w, e1, e2, q2⟩ v2 r2 => ?_⟩⟩
  exact hr u w v1 v2 C H2 Q st2.sim (r1.later st2 e1) (r2.later (.refl st2.sim) e2) A H (st.trans st2) q2
theorem opOr {X : Cx} {f : Value → Value → Sem Value} {r r' : R2} (h : OpR X f r) (h' : OpR X f r') : OpR X f fun x y H Q => r x y H Q ∨ r' x y H Q := fun pins s σ H x y v u Q I rx ry q =>
  q.elim (h pins s σ H x y v u Q I rx ry) (h' pins s σ H x y v u Q I rx ry)
end
end Z
end

section
set_option Elab.async false
set_option linter.all false
set_option maxRecDepth 100000
set_option maxHeartbeats 1000000
/-! ZOps: the operators' rules. -/
namespace Z
open PySem L2
abbrev HX := Option (Addr × Addr × Option Addr) × (Addr → Prop)
section
variable {X : Cx} {hx : HX}
theorem lk_int {g : G} {F H : Hp} {i : Int} {v : V} (h : Lk g F H (.int i) v) : v = .int i := by simpa only [Lk, Rp] using h
theorem lk_bl {g : G} {F H : Hp} {i : Bool} {v : V} (h : Lk g F H (.bl i) v) : v = .bl i := by simpa only [Lk, Rp] using h
theorem lk_non {g : G} {F H : Hp} {v : V} (h : Lk g F H .non v) : v = .non := by simpa only [Lk, Rp] using h
theorem lk_str {g : G} {F H : Hp} {z : Str} {v : V} (h : Lk g F H (.str z) v) : v = .str z ∧ z.length ≤ LIM := by simpa only [Lk, Rp] using h
theorem lk_tup {g : G} {F H : Hp} {ds : List D} {v : V} (h : Lk g F H (.tup ds) v) : ∃ a xs, v = .ref a ∧ SqT g.K F a xs ∧ Rps g F ds xs := by simpa only [Lk, Rp] using h
theorem lk_lst {g : G} {F H : Hp} {ds : List D} {v : V} (h : Lk g F H (.lst ds) v) : ∃ a xs, v = .ref a ∧ H a = some (.lst xs) ∧ ¬ g.scr a ∧ Rps g F ds xs := h
theorem ite_some {α : Type} {c : Prop} [Decidable c] {a b : α} (h : (if c then some a else none) = some b) : c ∧ a = b := by
  by_cases q : c
  · rw [if_pos q] at h; exact ⟨q, Option.some.inj h⟩
  · rw [if_neg q] at h; cases h
theorem Rps.rep {g : G} {F : Hp} {ds : List D} {xs : List V} (h : Rps g F ds xs) : ∀ n : Nat, Rps g F (List.replicate n ds).flatten (List.replicate n xs).flatten
  | 0 => by simpa using (Rps.nil (g := g) (F := F))
  | n + 1 => by
    rw [List.replicate_succ, List.replicate_succ, List.flatten_cons, List.flatten_cons]
    exact h.append (h.rep n)
/-- op on two operands, by binD -/
def rBin (X : Cx) (hx : HX) (op : Bop) : R2 := fun a b H Q => ∃ (σ : L2.St) (C : Ab) (u v : D) (o : O), Sm (gOf X hx) C σ H ∧ Lk (gOf X hx) C.F H u a ∧ Lk (gOf X hx) C.F H v b ∧ binD op u v = some o ∧ Aft (gOf X hx) σ C H o Q
theorem sqT_len {pins : List (Addr × Obj)} {σ : L2.St} {H : Hp} {s : Shared} (I : Inv X pins σ H s) {a : Addr} {xs : List V} (h : SqT X.K H a xs) : xs.length ≤ sizeLine := (I.tuple h).choose_spec.2.2
theorem bin_add : OpR X (binaryOp .Add) (rBin X hx .add) := by
  intro pins s σ0 H x y v u Q I rx ry ⟨σ, C, d, e, o, S, hd, he, ho, hA⟩
  cases d <;> cases e <;> simp only [binD] at ho <;> first | cases ho; done | skip
  case int.int i j =>
    cases ho
    obtain rfl := lk_int hd
    obtain rfl := lk_int he
    exact op_add pins s σ0 H _ _ v u Q I rx ry ⟨_, _, rfl, rfl, aft_int S hA⟩
  case int.bl i j =>
    cases ho
    obtain rfl := lk_int hd
    obtain rfl := lk_bl he
    refine op_add_ib pins s σ0 H _ _ v u Q I rx ry ⟨_, _, rfl, rfl, ?_⟩
    have q := aft_int S hA
    cases j <;> exact q
  case str.str z1 z2 =>
    obtain ⟨c, rfl⟩ := ite_some ho
    obtain ⟨rfl, l1⟩ := lk_str hd
    obtain ⟨rfl, l2⟩ := lk_str he
    have c := of_decide_eq_true c
    refine op_add_str pins s σ0 H _ _ v u Q I rx ry ⟨_, _, rfl, rfl, Nat.le_trans c lim_size, aft_str S hA ?_⟩
    show (z1.cps ++ z2.cps).size ≤ LIM
    rw [Array.size_append]; exact c
  case tup.tup ds es =>
    obtain ⟨c, rfl⟩ := ite_some ho
    obtain ⟨a, xs, rfl, h1, h2⟩ := lk_tup hd
    obtain ⟨b, ys, rfl, h3, h4⟩ := lk_tup he
    have c := of_decide_eq_true c
    refine op_catA pins s σ0 H _ _ v u Q I rx ry ⟨a, b, xs, ys, rfl, rfl, S.sqT h1, S.sqT h3, by rw [← h2.length, ← h4.length]; exact Nat.le_trans c lim_size, fun e => ?_, fun _ e => ?_, fun _ _ => ?_⟩
    · subst e
      refine aft_frz S hA ?_
      have e0 : ds = [] := by have := h2.length; cases ds <;> simp_all
      subst e0
      simp only [Rp]
      exact ⟨b, ys, rfl, h3, h4⟩
    · subst e
      refine aft_frz S hA ?_
      have e0 : es = [] := by have := h4.length; cases es <;> simp_all
      subst e0
      simp only [Rp]
      exact ⟨a, xs, rfl, h1, by rw [List.append_nil]; exact h2⟩
    · exact aft_tup S hA (h2.append h4)
  case lst.lst ds es =>
    obtain ⟨c, rfl⟩ := ite_some ho
    obtain ⟨a, xs, rfl, h1, _, h2⟩ := lk_lst hd
    obtain ⟨b, ys, rfl, h3, _, h4⟩ := lk_lst he
    have c := of_decide_eq_true c
    exact op_cat pins s σ0 H _ _ v u Q I rx ry ⟨a, b, xs, ys, rfl, rfl, h1, h3, by rw [← h2.length, ← h4.length]; exact Nat.le_trans c lim_size, aft_lst S hA (h2.append h4)⟩
theorem bin_sub : OpR X (binaryOp .Sub) (rBin X hx .sub) := by
  intro pins s σ0 H x y v u Q I rx ry ⟨σ, C, d, e, o, S, hd, he, ho, hA⟩
  cases d <;> cases e <;> simp only [binD] at ho <;> first | cases ho; done | skip
  case int.int i j =>
    cases ho
    obtain rfl := lk_int hd
    obtain rfl := lk_int he
    exact op_sub pins s σ0 H _ _ v u Q I rx ry ⟨_, _, rfl, rfl, aft_int S hA⟩
theorem bin_mul : OpR X (binaryOp .Mult) (rBin X hx .mul) := by
  intro pins s σ0 H x y v u Q I rx ry ⟨σ, C, d, e, o, S, hd, he, ho, hA⟩
  cases d <;> cases e <;> simp only [binD] at ho <;> first | cases ho; done | skip
  case int.int i j =>
    obtain ⟨c, rfl⟩ := ite_some ho
    obtain rfl := lk_int hd
    obtain rfl := lk_int he
    have c := of_decide_eq_true c
    exact op_mulW pins s σ0 H _ _ v u Q I rx ry ⟨_, _, rfl, rfl, (by unfold CMulW; omega), aft_int S hA⟩
  case lst.int ds j =>
    obtain ⟨c, rfl⟩ := ite_some ho
    obtain ⟨a, xs, rfl, h1, _, h2⟩ := lk_lst hd
    obtain rfl := lk_int he
    simp only [Bool.and_eq_true, decide_eq_true_eq] at c
    obtain ⟨⟨c1, c2⟩, c3⟩ := c
    refine op_rep pins s σ0 H _ _ v u Q I rx ry ⟨a, j, xs, rfl, rfl, h1, by omega, by omega, by rw [← h2.length]; exact Nat.le_trans c1 lim_size, aft_lst S hA ?_⟩
    exact h2.rep _
theorem bin_fdv : OpR X (binaryOp .FloorDiv) (rBin X hx .fdv) := by
  intro pins s σ0 H x y v u Q I rx ry ⟨σ, C, d, e, o, S, hd, he, ho, hA⟩
  cases d <;> cases e <;> simp only [binD] at ho <;> first | cases ho; done | skip
  case int.int i j =>
    obtain ⟨c, rfl⟩ := ite_some ho
    obtain rfl := lk_int hd
    obtain rfl := lk_int he
    simp only [divOk, Bool.and_eq_true, decide_eq_true_eq] at c
    exact op_fdivW pins s σ0 H _ _ v u Q I rx ry ⟨_, _, rfl, rfl, c, aft_int S hA⟩
theorem bin_mod : OpR X (binaryOp .Mod) (rBin X hx .mod) := by
  intro pins s σ0 H x y v u Q I rx ry ⟨σ, C, d, e, o, S, hd, he, ho, hA⟩
  cases d <;> cases e <;> simp only [binD] at ho <;> first | cases ho; done | skip
  case int.int i j =>
    by_cases c : j = 0
    · rw [if_pos c] at ho; cases ho
    · rw [if_neg c] at ho
      cases ho
      obtain rfl := lk_int hd
      obtain rfl := lk_int he
      exact op_modN pins s σ0 H _ _ v u Q I rx ry ⟨_, _, rfl, rfl, c, aft_int S hA⟩
theorem bin_pow : OpR X (binaryOp .Pow) (rBin X hx .pow) := by
  intro pins s σ0 H x y v u Q I rx ry ⟨σ, C, d, e, o, S, hd, he, ho, hA⟩
  cases d <;> cases e <;> simp only [binD] at ho <;> first | cases ho; done | skip
  case int.int i j =>
    obtain ⟨c, rfl⟩ := ite_some ho
    obtain rfl := lk_int hd
    obtain rfl := lk_int he
    simp only [Bool.and_eq_true, decide_eq_true_eq] at c
    obtain ⟨⟨c1, c2⟩, c3⟩ := c
    exact op_pow pins s σ0 H _ _ v u Q I rx ry ⟨_, _, rfl, rfl, ⟨c1, by omega, c3⟩, aft_int S hA⟩
theorem bin_shl : OpR X (binaryOp .LShift) (rBin X hx .shl) := by
  intro pins s σ0 H x y v u Q I rx ry ⟨σ, C, d, e, o, S, hd, he, ho, hA⟩
  cases d <;> cases e <;> simp only [binD] at ho <;> first | cases ho; done | skip
  case int.int i j =>
    obtain ⟨c, rfl⟩ := ite_some ho
    obtain rfl := lk_int hd
    obtain rfl := lk_int he
    simp only [Bool.and_eq_true, decide_eq_true_eq] at c
    obtain ⟨⟨c1, c2⟩, c3⟩ := c
    exact op_shl pins s σ0 H _ _ v u Q I rx ry ⟨_, _, rfl, rfl, ⟨c1, by omega, c3⟩, aft_int S hA⟩
theorem bin_shr : OpR X (binaryOp .RShift) (rBin X hx .shr) := by
  intro pins s σ0 H x y v u Q I rx ry ⟨σ, C, d, e, o, S, hd, he, ho, hA⟩
  cases d <;> cases e <;> simp only [binD] at ho <;> first | cases ho; done | skip
  case int.int i j =>
    obtain ⟨c, rfl⟩ := ite_some ho
    obtain rfl := lk_int hd
    obtain rfl := lk_int he
    exact op_shr pins s σ0 H _ _ v u Q I rx ry ⟨_, _, rfl, rfl, c, aft_int S hA⟩
theorem bin_band : OpR X (binaryOp .BitAnd) (rBin X hx .band) := by
  intro pins s σ0 H x y v u Q I rx ry ⟨σ, C, d, e, o, S, hd, he, ho, hA⟩
  cases d <;> cases e <;> simp only [binD] at ho <;> first | cases ho; done | skip
  case int.int i j =>
    cases ho
    obtain rfl := lk_int hd
    obtain rfl := lk_int he
    exact op_and pins s σ0 H _ _ v u Q I rx ry ⟨_, _, rfl, rfl, aft_int S hA⟩
theorem op_bin (op : Bop) : OpR X (binaryOp op.x) (rBin X hx op) := by
  cases op
  · exact bin_add
  · exact bin_sub
  · exact bin_mul
  · exact bin_fdv
  · exact bin_mod
  · exact bin_pow
  · exact bin_shl
  · exact bin_shr
  · exact bin_band
/-! ### comparisons -/
mutual
theorem depth_py : ∀ d : D, d.plain = true → d.py.depth = d.depth
  | .non, _ => by simp only [D.py, PyData.depth, D.depth]
  | .bl _, _ => by simp only [D.py, PyData.depth, D.depth]
  | .int _, _ => by simp only [D.py, PyData.depth, D.depth]
  | .str _, _ => by simp only [D.py, PyData.depth, D.depth]
  | .tup xs, h => by
    simp only [D.py, PyData.depth, D.depth]
    rw [depths_py xs (by simpa only [D.plain] using h)]
  | .lst xs, h => by
    simp only [D.py, PyData.depth, D.depth]
    rw [depths_py xs (by simpa only [D.plain] using h)]
  | .dct _, h => by simp [D.plain] at h
  | .fn _, h => by simp [D.plain] at h
  | .scr _, h => by simp [D.plain] at h
theorem depths_py : ∀ ds : List D, D.plains ds = true → PyData.depthAll (D.pys ds) = D.depths ds
  | [], _ => by simp only [D.pys, PyData.depthAll, D.depths]
  | d :: r, h => by
    simp only [D.plains, Bool.and_eq_true] at h
    simp only [D.pys, PyData.depthAll, D.depths]
    rw [depth_py d h.1, depths_py r h.2]
end
mutual
theorem canLay_py : ∀ d : D, d.plain = true → okS d = true → d.py.canLay0 = true
  | .non, _, _ => by simp only [D.py, PyData.canLay0]
  | .bl _, _, _ => by simp only [D.py, PyData.canLay0]
  | .int _, _, _ => by simp only [D.py, PyData.canLay0]
  | .str z, _, h => by
    simp only [D.py, PyData.canLay0]
    exact h
  | .tup xs, h, k => by
    simp only [D.py, PyData.canLay0]
    exact canLays_py xs (by simpa only [D.plain] using h) (by simpa only [okS] using k)
  | .lst xs, h, k => by
    simp only [D.py, PyData.canLay0]
    exact canLays_py xs (by simpa only [D.plain] using h) (by simpa only [okS] using k)
  | .dct _, h, _ => by simp [D.plain] at h
  | .fn _, h, _ => by simp [D.plain] at h
  | .scr _, h, _ => by simp [D.plain] at h
theorem canLays_py : ∀ ds : List D, D.plains ds = true → okSs ds = true → PyData.canLayAll0 (D.pys ds) = true
  | [], _, _ => by simp only [D.pys, PyData.canLayAll0]
  | d :: r, h, k => by
    simp only [D.plains, Bool.and_eq_true] at h
    simp only [okSs, Bool.and_eq_true] at k
    simp only [D.pys, PyData.canLayAll0, Bool.and_eq_true]
    exact ⟨canLay_py d h.1 k.1, canLays_py r h.2 k.2⟩
end
mutual
theorem eqv_py : ∀ a b : D, a.plain = true → b.plain = true → PyData.eqv a.py b.py = D.eqv a b
  | .tup xs, b, ha, hb => by
    cases b <;> first
      | (simp [D.plain] at hb; done)
      | (simp only [D.py, PyData.eqv, D.eqv]; done)
      | (simp only [D.py, PyData.eqv, D.eqv]; exact eqvs_py _ _ (by simpa only [D.plain] using ha) (by simpa only [D.plain] using hb))
  | .lst xs, b, ha, hb => by
    cases b <;> first
      | (simp [D.plain] at hb; done)
      | (simp only [D.py, PyData.eqv, D.eqv]; done)
      | (simp only [D.py, PyData.eqv, D.eqv]; exact eqvs_py _ _ (by simpa only [D.plain] using ha) (by simpa only [D.plain] using hb))
  | .non, b, ha, hb => by cases b <;> first | (simp [D.plain] at hb; done) | (simp only [D.py, PyData.eqv, D.eqv]; done)
  | .bl _, b, ha, hb => by cases b <;> first | (simp [D.plain] at hb; done) | (simp only [D.py, PyData.eqv, D.eqv]; done)
  | .int _, b, ha, hb => by cases b <;> first | (simp [D.plain] at hb; done) | (simp only [D.py, PyData.eqv, D.eqv]; done)
  | .str _, b, ha, hb => by cases b <;> first | (simp [D.plain] at hb; done) | (simp only [D.py, PyData.eqv, D.eqv]; done)
  | .dct _, _, h, _ => by simp [D.plain] at h
  | .fn _, _, h, _ => by simp [D.plain] at h
  | .scr _, _, h, _ => by simp [D.plain] at h
theorem eqvs_py : ∀ a b : List D, D.plains a = true → D.plains b = true → PyData.eqvAll (D.pys a) (D.pys b) = D.eqvs a b
  | [], [], _, _ => by simp only [D.pys, PyData.eqvAll, D.eqvs]
  | [], _ :: _, _, _ => by simp only [D.pys, PyData.eqvAll, D.eqvs]
  | _ :: _, [], _, _ => by simp only [D.pys, PyData.eqvAll, D.eqvs]
  | x :: xs, y :: ys, ha, hb => by
    simp only [D.plains, Bool.and_eq_true] at ha hb
    simp only [D.pys, PyData.eqvAll, D.eqvs]
    rw [eqv_py x y ha.1 hb.1, eqvs_py xs ys ha.2 hb.2]
end
mutual
theorem Sim.dp {g : G} {F : Hp} {env : Env} {σ : L2.St} {H : Hp} {fp : Nat → List Addr} (S : Sim g F env σ H fp) : ∀ (d : D) (v : V), d.plain = true → Rp g F d v → Dp g.K H v d.py
  | .non, v, _, h => by
    simp only [Rp] at h; subst h
    simp only [D.py]; exact .non
  | .bl b, v, _, h => by
    simp only [Rp] at h; subst h
    simp only [D.py]; exact .bl b
  | .int i, v, _, h => by
    simp only [Rp] at h; subst h
    simp only [D.py]; exact .int i
  | .str z, v, _, h => by
    simp only [Rp] at h; obtain ⟨rfl, _⟩ := h
    simp only [D.py]; exact .str z
  | .tup ds, v, p, h => by
    simp only [Rp] at h
    obtain ⟨a, xs, rfl, h1, h2⟩ := h
    simp only [D.py]
    exact .tup (S.sqT h1) (S.dps ds xs (by simpa only [D.plain] using p) h2)
  | .lst ds, v, p, h => by
    simp only [Rp] at h
    obtain ⟨a, xs, rfl, h1, hn, h2⟩ := h
    simp only [D.py]
    exact .lst (.of (S.ls _ _ h1 hn)) (S.dps ds xs (by simpa only [D.plain] using p) h2)
  | .dct _, _, h, _ => by simp [D.plain] at h
  | .fn _, _, h, _ => by simp [D.plain] at h
  | .scr _, _, h, _ => by simp [D.plain] at h
theorem Sim.dps {g : G} {F : Hp} {env : Env} {σ : L2.St} {H : Hp} {fp : Nat → List Addr} (S : Sim g F env σ H fp) : ∀ (ds : List D) (xs : List V), D.plains ds = true → Rps g F ds xs → DpAll g.K H xs (D.pys ds)
  | [], xs, _, h => by
    rw [h.nil_inv]
    simp only [D.pys]; exact .nil
  | d :: r, xs, p, h => by
    obtain ⟨x, xs', rfl, h1, h2⟩ := h.inv
    simp only [D.plains, Bool.and_eq_true] at p
    simp only [D.pys]
    exact .cons (S.dp d x p.1 h1) (S.dps r xs' p.2 h2)
end
theorem Sim.dpL {g : G} {F : Hp} {env : Env} {σ : L2.St} {H : Hp} {fp : Nat → List Addr} (S : Sim g F env σ H fp) {d : D} {v : V} (p : d.plain = true) (h : Lk g F H d v) : Dp g.K H v d.py := by
  cases d with
  | lst ds =>
    obtain ⟨a, xs, rfl, h1, hn, h2⟩ := h
    simp only [D.py]
    exact .lst (.of h1) (S.dps ds xs (by simpa only [D.plain] using p) h2)
  | dct _ => simp [D.plain] at p
  | _ => exact S.dp _ v p h
theorem eqOk_inv {d : D} (h : eqOk d = true) : d.plain = true ∧ SeqAt.shaped d.py = true := by
  simp only [eqOk, Bool.and_eq_true, decide_eq_true_eq] at h
  refine ⟨h.1.1, ?_⟩
  unfold SeqAt.shaped
  rw [canLay_py d h.1.1 h.1.2, depth_py d h.1.1]
  simp; omega
def rCmp (X : Cx) (hx : HX) (op : Cop) : R2 := fun a b H Q => ∃ (σ : L2.St) (C : Ab) (u v : D) (t : Bool), Sm (gOf X hx) C σ H ∧ Lk (gOf X hx) C.F H u a ∧ Lk (gOf X hx) C.F H v b ∧ cmpD op u v = some t ∧ Q (.bl t) H
theorem cmp_eq (hu : X.A.units + 64 < cLine) : OpR X (compareOp .Eq) (rCmp X hx .eq) := by
  intro pins s σ0 H x y v u Q I rx ry ⟨σ, C, d, e, t, S, hd, he, ho, hA⟩
  have gen : (if eqOk d && eqOk e then some (D.eqv d e) else none) = some t → wpAny (model X.prog X.w) X.A (compareOp .Eq v u) (EP X pins σ0 Q) X.xe s := fun ho => by
    obtain ⟨c, rfl⟩ := ite_some ho
    simp only [Bool.and_eq_true] at c
    obtain ⟨p1, s1⟩ := eqOk_inv c.1
    obtain ⟨p2, s2⟩ := eqOk_inv c.2
    exact op_eqD hu pins s σ0 H x y v u Q I rx ry ⟨d.py, e.py, S.dpL p1 hd, S.dpL p2 he, s1, s2, by rw [eqv_py d e p1 p2]; exact hA⟩
  cases d with
  | str z1 =>
    cases e with
    | str z2 =>
      simp only [cmpD] at ho
      cases ho
      obtain ⟨rfl, _⟩ := lk_str hd
      obtain ⟨rfl, _⟩ := lk_str he
      refine op_eq pins s σ0 H _ _ v u Q I rx ry ⟨rfl, ?_⟩
      have e1 : decide (V.str z1 = V.str z2) = decide (z1 = z2) := by simp
      rw [e1]; exact hA
    | _ => exact gen (by simpa only [cmpD] using ho)
  | _ => exact gen (by simpa only [cmpD] using ho)
theorem cmp_ne (hu : X.A.units + 64 < cLine) : OpR X (compareOp .NotEq) (rCmp X hx .ne) := by
  intro pins s σ0 H x y v u Q I rx ry ⟨σ, C, d, e, t, S, hd, he, ho, hA⟩
  have gen : (if eqOk d && eqOk e then some (!D.eqv d e) else none) = some t → wpAny (model X.prog X.w) X.A (compareOp .NotEq v u) (EP X pins σ0 Q) X.xe s := fun ho => by
    obtain ⟨c, rfl⟩ := ite_some ho
    simp only [Bool.and_eq_true] at c
    obtain ⟨p1, s1⟩ := eqOk_inv c.1
    obtain ⟨p2, s2⟩ := eqOk_inv c.2
    exact op_neD hu pins s σ0 H x y v u Q I rx ry ⟨d.py, e.py, S.dpL p1 hd, S.dpL p2 he, s1, s2, by rw [eqv_py d e p1 p2]; exact hA⟩
  cases d with
  | str z1 =>
    cases e with
    | str z2 =>
      simp only [cmpD] at ho
      cases ho
      obtain ⟨rfl, _⟩ := lk_str hd
      obtain ⟨rfl, _⟩ := lk_str he
      refine op_ne pins s σ0 H _ _ v u Q I rx ry ⟨rfl, ?_⟩
      have e1 : decide (V.str z1 = V.str z2) = decide (z1 = z2) := by simp
      rw [e1]; exact hA
    | _ => exact gen (by simpa only [cmpD] using ho)
  | _ => exact gen (by simpa only [cmpD] using ho)
theorem cmp_lt : OpR X (compareOp .Lt) (rCmp X hx .lt) := by
  intro pins s σ0 H x y v u Q I rx ry ⟨σ, C, d, e, t, S, hd, he, ho, hA⟩
  cases d <;> cases e <;> simp only [cmpD, ltD] at ho <;> first | cases ho; done | skip
  case int.int i j =>
    cases ho
    obtain rfl := lk_int hd
    obtain rfl := lk_int he
    exact op_lt pins s σ0 H _ _ v u Q I rx ry ⟨_, _, rfl, rfl, hA⟩
  case str.str i j =>
    cases ho
    obtain ⟨rfl, _⟩ := lk_str hd
    obtain ⟨rfl, _⟩ := lk_str he
    exact op_lt_str pins s σ0 H _ _ v u Q I rx ry ⟨_, _, rfl, rfl, hA⟩
theorem cmp_le : OpR X (compareOp .LtE) (rCmp X hx .le) := by
  intro pins s σ0 H x y v u Q I rx ry ⟨σ, C, d, e, t, S, hd, he, ho, hA⟩
  cases d <;> cases e <;> simp only [cmpD] at ho <;> first | cases ho; done | skip
  case int.int i j =>
    cases ho
    obtain rfl := lk_int hd
    obtain rfl := lk_int he
    exact op_le pins s σ0 H _ _ v u Q I rx ry ⟨_, _, rfl, rfl, hA⟩
  case str.str i j =>
    cases ho
    obtain ⟨rfl, _⟩ := lk_str hd
    obtain ⟨rfl, _⟩ := lk_str he
    exact op_le_str pins s σ0 H _ _ v u Q I rx ry ⟨_, _, rfl, rfl, hA⟩
theorem cmp_gt : OpR X (compareOp .Gt) (rCmp X hx .gt) := by
  intro pins s σ0 H x y v u Q I rx ry ⟨σ, C, d, e, t, S, hd, he, ho, hA⟩
  cases d <;> cases e <;> simp only [cmpD] at ho <;> first | cases ho; done | skip
  case int.int i j =>
    cases ho
    obtain rfl := lk_int hd
    obtain rfl := lk_int he
    exact op_gt pins s σ0 H _ _ v u Q I rx ry ⟨_, _, rfl, rfl, hA⟩
theorem cmp_ge : OpR X (compareOp .GtE) (rCmp X hx .ge) := by
  intro pins s σ0 H x y v u Q I rx ry ⟨σ, C, d, e, t, S, hd, he, ho, hA⟩
  cases d <;> cases e <;> simp only [cmpD] at ho <;> first | cases ho; done | skip
  case int.int i j =>
    cases ho
    obtain rfl := lk_int hd
    obtain rfl := lk_int he
    exact op_ge pins s σ0 H _ _ v u Q I rx ry ⟨_, _, rfl, rfl, hA⟩
theorem lk_isnon {g : G} {F H : Hp} {d : D} {v : V} (h : Lk g F H d v) : decide (v = .non) = d.isNon := by
  cases d with
  | non => obtain rfl := lk_non h; rfl
  | bl b => obtain rfl := lk_bl h; rfl
  | int i => obtain rfl := lk_int h; rfl
  | str z => obtain ⟨rfl, _⟩ := lk_str h; rfl
  | tup ds => obtain ⟨a, xs, rfl, _⟩ := lk_tup h; rfl
  | lst ds => obtain ⟨a, xs, rfl, _⟩ := lk_lst h; rfl
  | dct kvs => obtain ⟨a, rfl, _⟩ := h; rfl
  | fn x =>
    have h' : fnV g x v := by simpa only [Lk, Rp] using h
    rcases h' with ⟨a, _, rfl⟩ | ⟨_, n, _, rfl⟩ <;> rfl
  | scr ns =>
    have h' : ∃ a, v = .ref a ∧ F a = some (.lst (ns.map V.int)) := by simpa only [Lk, Rp] using h
    obtain ⟨a, rfl, _⟩ := h'; rfl
theorem cmp_is : OpR X (compareOp .Is) (rCmp X hx .isx) := by
  intro pins s σ0 H x y v u Q I rx ry ⟨σ, C, d, e, t, S, hd, he, ho, hA⟩
  cases e with
  | non =>
    obtain rfl := lk_non he
    have e1 : t = d.isNon := by
      have q : some d.isNon = some t := by rw [← ho]; cases d <;> rfl
      exact (Option.some.inj q).symm
    refine op_isN pins s σ0 H _ _ v u Q I rx ry ⟨rfl, ?_⟩
    rw [lk_isnon hd, ← e1]; exact hA
  | bl b =>
    cases d with
    | bl a =>
      obtain rfl := lk_bl hd
      obtain rfl := lk_bl he
      simp only [cmpD] at ho
      cases ho
      refine op_isBl pins s σ0 H _ _ v u Q I rx ry ⟨_, _, rfl, rfl, ?_⟩
      have e1 : decide (a = b) = (a == b) := by cases a <;> cases b <;> rfl
      rw [e1]; exact hA
    | _ => simp only [cmpD] at ho; cases ho
  | _ => cases d <;> (simp only [cmpD] at ho; cases ho)
theorem cmp_isn : OpR X (compareOp .IsNot) (rCmp X hx .isn) := by
  intro pins s σ0 H x y v u Q I rx ry ⟨σ, C, d, e, t, S, hd, he, ho, hA⟩
  cases e with
  | non =>
    obtain rfl := lk_non he
    have e1 : t = !d.isNon := by
      have q : some (!d.isNon) = some t := by rw [← ho]; cases d <;> rfl
      exact (Option.some.inj q).symm
    refine op_notN pins s σ0 H _ _ v u Q I rx ry ⟨rfl, ?_⟩
    rw [lk_isnon hd, ← e1]; exact hA
  | bl b =>
    cases d with
    | bl a =>
      obtain rfl := lk_bl hd
      obtain rfl := lk_bl he
      simp only [cmpD] at ho
      cases ho
      refine op_notBl pins s σ0 H _ _ v u Q I rx ry ⟨_, _, rfl, rfl, ?_⟩
      have e1 : (!decide (a = b)) = (a != b) := by cases a <;> cases b <;> rfl
      rw [e1]; exact hA
    | _ => simp only [cmpD] at ho; cases ho
  | _ => cases d <;> (simp only [cmpD] at ho; cases ho)
/-! dicts with ints and texts as keys -/
theorem keyR_eq {a b : D} {k l : Key} (ha : keyR a k) (hb : keyR b l) : D.eqv a b = decide (k = l) := by
  cases a <;> cases b <;> simp only [keyR] at ha hb <;> subst ha <;> subst hb <;> simp [D.eqv]
  all_goals first | rfl | (rw [Bool.beq_eq_decide_eq]) | skip
theorem dget_K {g : G} {F : Hp} {k : D} {k' : Key} (hk : keyR k k') : ∀ {kvs : List (D × D)} {l : List (Key × V)}, RpK g F kvs l →
    (dget kvs k = none ∧ valV l k' = none) ∨ ∃ d v, dget kvs k = some d ∧ valV l k' = some v ∧ Rp g F d v
  | [], l, h => by
    have e : l = [] := by simpa only [RpK] using h
    subst e
    exact .inl ⟨rfl, rfl⟩
  | (a, d) :: r, l, h => by
    simp only [RpK] at h
    obtain ⟨a', v, l', rfl, h1, h2, h3⟩ := h
    have q := keyR_eq h1 hk
    by_cases e : a' = k'
    · refine .inr ⟨d, v, ?_, valV_pos e, h2⟩
      rw [decide_eq_true e] at q
      simp [dget, List.find?_cons, q]
    · rw [decide_eq_false e] at q
      have e1 : dget ((a, d) :: r) k = dget r k := by simp [dget, List.find?_cons, q]
      rw [e1, valV_neg e]
      exact dget_K hk h3
theorem keyOk_inv {k : D} (h : keyOk k = true) : ∃ k', keyR k k' := by
  cases k <;> simp [keyOk] at h
  · exact ⟨_, rfl⟩
  · exact ⟨_, rfl⟩
theorem flat_V {g : G} {F : Hp} {d : D} {v : V} (h : Rp g F d v) (f : flatD d = true) : flatV v = true := by
  cases d <;> simp [flatD] at f <;> simp only [Rp] at h
  · subst h; rfl
  · subst h; rfl
  · subst h; rfl
  · obtain ⟨rfl, _⟩ := h; rfl
theorem flat_eq {g : G} {F : Hp} {d e : D} {v w : V} (h : Rp g F d v) (f : flatD d = true) (h' : Rp g F e w) (f' : flatD e = true) : eqV v w = D.eqv d e := by
  cases d <;> simp [flatD] at f <;> simp only [Rp] at h <;> cases e <;> simp [flatD] at f' <;> simp only [Rp] at h'
  all_goals first
    | (subst h; subst h'; rfl)
    | (subst h; obtain ⟨rfl, _⟩ := h'; rfl)
    | (obtain ⟨rfl, _⟩ := h; subst h'; rfl)
    | (obtain ⟨rfl, _⟩ := h; obtain ⟨rfl, _⟩ := h'; rfl)
theorem flat_all {g : G} {F : Hp} : ∀ {ds : List D} {xs : List V}, Rps g F ds xs → ds.all flatD = true → xs.all flatV = true
  | [], _, h, _ => by rw [h.nil_inv] <;> rfl
  | d :: r, xs, h, f => by
    obtain ⟨x, xs', rfl, h1, h2⟩ := h.inv
    simp only [List.all_cons, Bool.and_eq_true] at f ⊢
    exact ⟨flat_V h1 f.1, flat_all h2 f.2⟩
theorem flat_any {g : G} {F : Hp} {e : D} {w : V} (h' : Rp g F e w) (f' : flatD e = true) : ∀ {ds : List D} {xs : List V}, Rps g F ds xs → ds.all flatD = true → (xs.any fun y => eqV y w) = ds.any fun y => D.eqv y e
  | [], _, h, _ => by rw [h.nil_inv] <;> rfl
  | d :: r, xs, h, f => by
    obtain ⟨x, xs', rfl, h1, h2⟩ := h.inv
    simp only [List.all_cons, Bool.and_eq_true] at f
    simp only [List.any_cons]
    rw [flat_eq h1 f.1 h' f', flat_any h' f' h2 f.2]
theorem py_any {e : D} (p : e.plain = true) : ∀ {ds : List D}, D.plains ds = true → ((D.pys ds).any fun z => PyData.eqv z e.py) = ds.any fun y => D.eqv y e
  | [], _ => by simp [D.pys]
  | d :: r, h => by
    simp only [D.plains, Bool.and_eq_true] at h
    simp only [D.pys, List.any_cons]
    rw [eqv_py d e h.1 p, py_any p h.2]
theorem eqOk_all : ∀ {ds : List D}, ds.all eqOk = true → D.plains ds = true ∧ okSs ds = true ∧ D.depths ds ≤ 60
  | [], _ => ⟨rfl, rfl, Nat.zero_le _⟩
  | d :: r, h => by
    simp only [List.all_cons, Bool.and_eq_true] at h
    obtain ⟨h1, h2⟩ := h
    obtain ⟨a, b, c⟩ := eqOk_all h2
    simp only [eqOk, Bool.and_eq_true, decide_eq_true_eq] at h1
    simp only [D.plains, okSs, D.depths, Bool.and_eq_true]
    exact ⟨⟨h1.1.1, a⟩, ⟨h1.1.2, b⟩, Nat.max_le.mpr ⟨h1.2, c⟩⟩
theorem shaped_lst {ds : List D} (h : ds.all eqOk = true) : (D.lst ds).plain = true ∧ SeqAt.shaped (D.lst ds).py = true := by
  obtain ⟨a, b, c⟩ := eqOk_all h
  have p : (D.lst ds).plain = true := by simpa only [D.plain] using a
  refine ⟨p, ?_⟩
  unfold SeqAt.shaped
  rw [canLay_py _ p (by simpa only [okS] using b), depth_py _ p]
  simp only [D.depth, Bool.true_and]
  exact decide_eq_true (by omega)
theorem lk_flat {g : G} {F H : Hp} {d : D} {v : V} (h : Lk g F H d v) (f : flatD d = true) : Rp g F d v := by
  cases d <;> simp [flatD] at f <;> exact h
theorem dct_all {k : D} {kvs : List (D × D)} (h : askOk kvs k = true) (z : kvs ≠ []) : ∃ p ∈ kvs, kindD k p.1 = true := by
  simp only [askOk, Bool.and_eq_true, List.all_eq_true] at h
  cases kvs with
  | nil => exact absurd rfl z
  | cons p r => exact ⟨p, List.mem_cons_self, h.2 p List.mem_cons_self⟩
/-- what a dict says of a key, by the layer's own word -/
theorem dct_ask {g : G} {F H : Hp} {kvs : List (D × D)} {k : D} {a : Addr} {y : V} (hk : askOk kvs k = true) (hy : Lk g F H k y)
    (h : (∃ l, Rd H a (.dK l) ∧ RpK g F kvs l) ∨ (kvs ≠ [] ∧ ∃ l, Rd H a (.dT l) ∧ RpT g F kvs l) ∨ (kvs ≠ [] ∧ (∃ es n, KDict g.K g.w a es n) ∧ (∀ z : Str, ∃ r, PySem.W.nsIn g.K a z = some r ∧ (r.isSome = true → ∃ d, (D.str z, d) ∈ kvs)) ∧ RpW g F a kvs)) :
    (∃ o, DGet H a y o ∧ ((dget kvs k = none ∧ o = none) ∨ ∃ d v, dget kvs k = some d ∧ o = some v ∧ Rp g F d v)) ∨
    (∃ z es n r, y = .str z ∧ KDict g.K g.w a es n ∧ PySem.W.nsIn g.K a z = some r ∧ ((dget kvs k = none ∧ r = none) ∨ ∃ d u v, dget kvs k = some d ∧ r = some u ∧ RelV v u ∧ Rp g F d v)) := by
  have ko : keyOk k = true := by simp only [askOk, Bool.and_eq_true] at hk; exact hk.1
  rcases h with ⟨l, h1, h2⟩ | ⟨z, l, h1, h2⟩ | ⟨z, ⟨es, n, kd⟩, h2, h3⟩
  · obtain ⟨k', hk'⟩ := keyOk_inv ko
    have ey : y = kV k' := by
      cases k <;> simp only [keyR] at hk' <;> subst hk'
      · exact lk_int hy
      · exact (lk_str hy).1
    refine .inl ⟨valV l k', .inl ⟨l, k', h1, ey, rfl⟩, ?_⟩
    exact dget_K hk' h2
  · obtain ⟨p, hp, kp⟩ := dct_all hk z
    exfalso
    obtain ⟨k1, d1⟩ := p
    have : ∀ {kvs : List (D × D)} {l : List (List Key × V)}, RpT g F kvs l → (k1, d1) ∈ kvs → ∃ k', tkeyR k1 k' := by
      intro kvs
      induction kvs with
      | nil => intro l _ hm; simp at hm
      | cons q r ih =>
        obtain ⟨qk, qd⟩ := q
        intro l h hm
        simp only [RpT] at h
        obtain ⟨k', v, l', _, h1, _, h3⟩ := h
        rcases List.mem_cons.mp hm with e | hm
        · cases e; exact ⟨k', h1⟩
        · exact ih h3 hm
    obtain ⟨k', hk'⟩ := this h2 hp
    cases k1 <;> simp only [tkeyR] at hk'
    cases k <;> simp [kindD] at kp
  · obtain ⟨p, hp, kp⟩ := dct_all hk z
    -- the keys are texts
    have allT : ∀ {kvs : List (D × D)}, RpW g F a kvs → ∀ p ∈ kvs, ∃ z u v, p.1 = .str z ∧ PySem.W.nsIn g.K a z = some (some u) ∧ RelV v u ∧ Rp g F p.2 v := by
      intro kvs
      induction kvs with
      | nil => intro _ p hm; simp at hm
      | cons q r ih =>
        obtain ⟨qk, qd⟩ := q
        intro h p hm
        simp only [RpW] at h
        rcases List.mem_cons.mp hm with e | hm
        · subst e; exact h.1
        · exact ih h.2 p hm
    obtain ⟨z1, u1, v1, e1, _⟩ := allT h3 p hp
    rw [e1] at kp
    cases k with
    | str zk =>
      obtain ⟨rfl, _⟩ := lk_str hy
      obtain ⟨r, hr, hr2⟩ := h2 zk
      refine .inr ⟨zk, es, n, r, rfl, kd, hr, ?_⟩
      cases hd : dget kvs (.str zk) with
      | none =>
        refine .inl ⟨rfl, ?_⟩
        cases r with
        | none => rfl
        | some u =>
          obtain ⟨d, hm⟩ := hr2 rfl
          exfalso
          have q : kvs.find? (fun p => D.eqv p.1 (.str zk)) = none := by
            unfold dget at hd
            cases w : kvs.find? (fun p => D.eqv p.1 (.str zk)) with
            | none => rfl
            | some x => rw [w] at hd; cases hd
          have := List.find?_eq_none.mp q _ hm
          simp [D.eqv] at this
      | some d =>
        unfold dget at hd
        cases w : kvs.find? (fun p => D.eqv p.1 (.str zk)) with
        | none => rw [w] at hd; cases hd
        | some x =>
          rw [w] at hd
          have hx := List.find?_some w
          have hm := List.mem_of_find?_eq_some w
          obtain ⟨z2, u2, v2, e2, e3, e4, e5⟩ := allT h3 x hm
          have ed : x.2 = d := Option.some.inj hd
          rw [e2] at hx
          have ez : z2 = zk := by simpa [D.eqv] using hx
          subst ez
          rw [hr] at e3
          refine .inr ⟨d, u2, v2, rfl, Option.some.inj e3, e4, ?_⟩
          rw [← ed]; exact e5
    | _ => simp [kindD] at kp
theorem cmp_in (hu : X.A.units + 300 < cLine) : OpR X (compareOp .In) (rCmp X hx .inx) := by
  intro pins s σ0 H x y v u Q I rx ry ⟨σ, C, d, e, t, S, hd, he, ho, hA⟩
  have ho : inD d e = some t := by simpa only [cmpD] using ho
  cases e with
  | str z =>
    obtain ⟨rfl, _⟩ := lk_str he
    cases d <;> simp only [inD] at ho <;> first | cases ho; done | skip
    case str y =>
      cases ho
      obtain ⟨rfl, _⟩ := lk_str hd
      exact op_in_str pins s σ0 H _ _ v u Q I rx ry ⟨_, _, rfl, rfl, hA⟩
  | lst xs =>
    simp only [inD] at ho
    obtain ⟨c, rfl⟩ := ite_some ho
    simp only [Bool.and_eq_true] at c
    obtain ⟨p1, s1⟩ := eqOk_inv c.1
    obtain ⟨p2, s2⟩ := shaped_lst c.2
    refine op_inD (by omega) pins s σ0 H x y v u Q I rx ry ⟨d.py, D.pys xs, S.dpL p1 hd, ?_, s1, ?_, ?_⟩
    · have q := S.dpL p2 he
      simpa only [D.py] using q
    · simpa only [D.py] using s2
    · rw [py_any p1 (eqOk_all c.2).1]; exact hA
  | tup xs =>
    simp only [inD] at ho
    obtain ⟨c, rfl⟩ := ite_some ho
    simp only [Bool.and_eq_true] at c
    obtain ⟨a, ys, rfl, h1, h2⟩ := lk_tup he
    refine op_in_seq pins s σ0 H x _ v u Q I rx ry ⟨a, ys, rfl, .inr (S.sqT h1), flat_V (lk_flat hd c.1) c.1, flat_all h2 c.2, ?_⟩
    have q : inV x ys = xs.any fun y => D.eqv y d := flat_any (lk_flat hd c.1) c.1 h2 c.2
    simp only [Bool.false_eq_true, if_false]
    rw [q]; exact hA
  | dct kvs =>
    simp only [inD] at ho
    obtain ⟨c, rfl⟩ := ite_some ho
    obtain ⟨a, rfl, h⟩ := he
    rcases dct_ask c hd h with ⟨o, g1, g2⟩ | ⟨z, es, n, r, rfl, kd, hr, g2⟩
    · obtain rfl : u = Value.ref a := ry
      refine d_in (by omega) I g1 rx fun s3 I3 => ⟨.bl o.isSome, H, I3, rfl, ?_⟩
      rcases g2 with ⟨e1, rfl⟩ | ⟨d1, v1, e1, rfl, _⟩
      · rw [e1] at hA; exact hA
      · rw [e1] at hA; exact hA
    · refine op_in_kd kd pins s σ0 H _ _ v u Q I rx ry ⟨z, r, rfl, rfl, hr, ?_⟩
      rcases g2 with ⟨e1, rfl⟩ | ⟨d1, u1, v1, e1, rfl, _⟩
      · rw [e1] at hA; exact hA
      · rw [e1] at hA; exact hA
  | _ => cases d <;> (simp only [inD] at ho; cases ho)
theorem cmp_nin (hu : X.A.units + 300 < cLine) : OpR X (compareOp .NotIn) (rCmp X hx .nin) := by
  intro pins s σ0 H x y v u Q I rx ry ⟨σ, C, d, e, t, S, hd, he, ho, hA⟩
  have ho : (inD d e).map (!·) = some t := by simpa only [cmpD] using ho
  cases e with
  | str z =>
    obtain ⟨rfl, _⟩ := lk_str he
    cases d <;> simp only [inD] at ho <;> first | cases ho; done | skip
    case str y =>
      cases ho
      obtain ⟨rfl, _⟩ := lk_str hd
      exact L2.op_notIn_str pins s σ0 H _ _ v u Q I rx ry ⟨_, _, rfl, rfl, hA⟩
  | lst xs =>
    simp only [inD] at ho
    cases q : (eqOk d && xs.all eqOk) with
    | false => rw [q] at ho; simp at ho
    | true =>
      rw [q] at ho
      simp only [Bool.and_eq_true] at q
      obtain ⟨p1, s1⟩ := eqOk_inv q.1
      obtain ⟨p2, s2⟩ := shaped_lst q.2
      refine op_notInD (by omega) pins s σ0 H x y v u Q I rx ry ⟨d.py, D.pys xs, S.dpL p1 hd, ?_, s1, ?_, ?_⟩
      · have q := S.dpL p2 he
        simpa only [D.py] using q
      · simpa only [D.py] using s2
      · rw [py_any p1 (eqOk_all q.2).1]
        simp only [if_true, Option.map_some, Option.some.injEq] at ho
        rw [ho]; exact hA
  | tup xs =>
    simp only [inD] at ho
    cases q : (flatD d && xs.all flatD) with
    | false => rw [q] at ho; simp at ho
    | true =>
      rw [q] at ho
      simp only [Bool.and_eq_true] at q
      obtain ⟨a, ys, rfl, h1, h2⟩ := lk_tup he
      refine op_notIn_seq pins s σ0 H x _ v u Q I rx ry ⟨a, ys, rfl, .inr (S.sqT h1), flat_V (lk_flat hd q.1) q.1, flat_all h2 q.2, ?_⟩
      have w : inV x ys = xs.any fun y => D.eqv y d := flat_any (lk_flat hd q.1) q.1 h2 q.2
      simp only [if_true]
      simp only [if_true, Option.map_some, Option.some.injEq] at ho
      rw [w, ho]; exact hA
  | dct kvs =>
    simp only [inD] at ho
    cases c : askOk kvs d with
    | false => rw [c] at ho; simp at ho
    | true =>
      rw [c] at ho
      simp only [if_true, Option.map_some, Option.some.injEq] at ho
      obtain ⟨a, rfl, h⟩ := he
      rcases dct_ask c hd h with ⟨o, g1, g2⟩ | ⟨z, es, n, r, rfl, kd, hr, g2⟩
      · obtain rfl : u = Value.ref a := ry
        refine d_notIn (by omega) I g1 rx fun s3 I3 => ⟨.bl (!o.isSome), H, I3, rfl, ?_⟩
        subst ho
        rcases g2 with ⟨e1, rfl⟩ | ⟨d1, v1, e1, rfl, _⟩
        · rw [e1] at hA; exact hA
        · rw [e1] at hA; exact hA
      · refine op_notIn_kd kd pins s σ0 H _ _ v u Q I rx ry ⟨z, r, rfl, rfl, hr, ?_⟩
        subst ho
        rcases g2 with ⟨e1, rfl⟩ | ⟨d1, u1, v1, e1, rfl, _⟩
        · rw [e1] at hA; exact hA
        · rw [e1] at hA; exact hA
  | _ => cases d <;> (simp only [inD] at ho; cases ho)
theorem op_cmp (hu : X.A.units + 300 < cLine) (op : Cop) : OpR X (compareOp op.x) (rCmp X hx op) := by
  cases op
  · exact cmp_eq (by omega)
  · exact cmp_ne (by omega)
  · exact cmp_lt
  · exact cmp_le
  · exact cmp_gt
  · exact cmp_ge
  · exact cmp_is
  · exact cmp_isn
  · exact cmp_in hu
  · exact cmp_nin hu
end
end Z
end

section
set_option Elab.async false
set_option linter.all false
set_option maxRecDepth 100000
set_option maxHeartbeats 1000000
/-! ZBi: built-in functions, methods, items. -/
namespace Z
open PySem L2
def Lks (g : G) (F H : Hp) : List D → List V → Prop
  | [], vs => vs = []
  | d :: r, vs => ∃ v vs', vs = v :: vs' ∧ Lk g F H d v ∧ Lks g F H r vs'
section
variable {X : Cx} {hx : HX}
/-- the built-in x, called -/
def rBi (X : Cx) (hx : HX) (x : Str) : List V → Hp → VK → Prop := fun vs H Q => ∃ (σ : L2.St) (C : Ab) (ds : List D) (o : O), Sm (gOf X hx) C σ H ∧ Lks (gOf X hx) C.F H ds vs ∧ biD x ds = some o ∧ Aft (gOf X hx) σ C H o Q
theorem lks1 {g : G} {F H : Hp} {d : D} {vs : List V} (h : Lks g F H [d] vs) : ∃ v, vs = [v] ∧ Lk g F H d v := by
  obtain ⟨v, vs', rfl, h1, h2⟩ := h
  have e : vs' = [] := h2
  subst e
  exact ⟨v, rfl, h1⟩
theorem lks2 {g : G} {F H : Hp} {d e : D} {vs : List V} (h : Lks g F H [d, e] vs) : ∃ v w, vs = [v, w] ∧ Lk g F H d v ∧ Lk g F H e w := by
  obtain ⟨v, vs', rfl, h1, h2⟩ := h
  obtain ⟨w, rfl, h3⟩ := lks1 h2
  exact ⟨v, w, rfl, h1, h3⟩
theorem bls_V {g : G} {F : Hp} : ∀ {ds : List D} {xs : List V} {bs : List Bool}, Rps g F ds xs → blsD ds = some bs → xs = bs.map V.bl
  | [], xs, bs, h, e => by
    rw [h.nil_inv]
    simp only [blsD] at e
    cases e; rfl
  | d :: r, xs, bs, h, e => by
    obtain ⟨x, xs', rfl, h1, h2⟩ := h.inv
    cases d <;> simp only [blsD] at e <;> first | cases e; done | skip
    case bl b =>
      cases q : blsD r with
      | none => rw [q] at e; cases e
      | some bs' =>
        rw [q] at e
        simp only [Option.map_some, Option.some.injEq] at e
        subst e
        simp only [Rp] at h1
        subst h1
        rw [bls_V h2 q] <;> rfl
theorem strs_V {g : G} {F : Hp} : ∀ {ds : List D} {xs : List V} {bs : List Str}, Rps g F ds xs → strsD ds = some bs → xs = bs.map V.str
  | [], xs, bs, h, e => by
    rw [h.nil_inv]
    simp only [strsD] at e
    cases e; rfl
  | d :: r, xs, bs, h, e => by
    obtain ⟨x, xs', rfl, h1, h2⟩ := h.inv
    cases d <;> simp only [strsD] at e <;> first | cases e; done | skip
    case str b =>
      cases q : strsD r with
      | none => rw [q] at e; cases e
      | some bs' =>
        rw [q] at e
        simp only [Option.map_some, Option.some.injEq] at e
        subst e
        simp only [Rp] at h1
        obtain ⟨rfl, _⟩ := h1
        rw [strs_V h2 q] <;> rfl
theorem cbi_len : CallR X (.builtin "len") (rBi X hx "len") := by
  intro pins s σ0 H xs us Q I r ⟨σ, C, ds, o, S, hd, ho, hA⟩
  replace ho : Z.bi_len ds = some o := ho
  unfold Z.bi_len at ho
  split at ho <;> first | cases ho; done | skip
  · rename_i xs1
    cases ho
    obtain ⟨v, rfl, h⟩ := lks1 hd
    obtain ⟨a, ys, rfl, h1, h2⟩ := lk_tup h
    refine call_len_seq pins s σ0 H _ us Q I r ⟨a, ys, rfl, .inr (S.sqT h1), ?_⟩
    rw [← h2.length]; exact aft_int S hA
  · rename_i xs1
    cases ho
    obtain ⟨v, rfl, h⟩ := lks1 hd
    obtain ⟨a, ys, rfl, h1, _, h2⟩ := lk_lst h
    refine call_len_seq pins s σ0 H _ us Q I r ⟨a, ys, rfl, .inl (.of h1), ?_⟩
    rw [← h2.length]; exact aft_int S hA
  · rename_i z
    cases ho
    obtain ⟨v, rfl, h⟩ := lks1 hd
    obtain ⟨rfl, hz⟩ := lk_str h
    exact call_len_str pins s σ0 H _ us Q I r ⟨z, rfl, Nat.le_trans hz lim_size, aft_int S hA⟩
theorem cbi_int : CallR X (.type "int") (rBi X hx "int") := by
  intro pins s σ0 H xs us Q I r ⟨σ, C, ds, o, S, hd, ho, hA⟩
  replace ho : Z.bi_int ds = some o := ho
  unfold Z.bi_int at ho
  split at ho <;> first | cases ho; done | skip
  · rename_i i
    cases ho
    obtain ⟨v, rfl, h⟩ := lks1 hd
    obtain rfl := lk_int h
    exact call_int1 pins s σ0 H _ us Q I r (.inl ⟨i, rfl, aft_int S hA⟩)
  · rename_i b
    cases ho
    obtain ⟨v, rfl, h⟩ := lks1 hd
    obtain rfl := lk_bl h
    exact call_int1 pins s σ0 H _ us Q I r (.inr ⟨b, rfl, aft_int S hA⟩)
  · rename_i z
    by_cases c : z.length ≤ 640
    · rw [if_pos (decide_eq_true c)] at ho
      obtain ⟨v, rfl, h⟩ := lks1 hd
      obtain ⟨rfl, hz⟩ := lk_str h
      cases q : PySem.intText? z with
      | none => rw [q] at ho; cases ho
      | some n =>
        rw [q] at ho
        cases ho
        exact call_int_str pins s σ0 H _ us Q I r ⟨z, n, rfl, q, c, aft_int S hA⟩
    · rw [if_neg (by simpa using c)] at ho; cases ho
theorem cbi_abs : CallR X (.builtin "abs") (rBi X hx "abs") := by
  intro pins s σ0 H xs us Q I r ⟨σ, C, ds, o, S, hd, ho, hA⟩
  replace ho : Z.bi_abs ds = some o := ho
  unfold Z.bi_abs at ho
  split at ho <;> first | cases ho; done | skip
  rename_i i
  cases ho
  obtain ⟨v, rfl, h⟩ := lks1 hd
  obtain rfl := lk_int h
  exact call_abs pins s σ0 H _ us Q I r ⟨i, rfl, aft_int S hA⟩
theorem cbi_all (hc : X.calm = true) : CallR X (.builtin "all") (rBi X hx "all") := by
  intro pins s σ0 H xs us Q I r ⟨σ, C, ds, o, S, hd, ho, hA⟩
  replace ho : Z.bi_all ds = some o := ho
  unfold Z.bi_all at ho
  split at ho <;> first | cases ho; done | skip
  rename_i xs1
  obtain ⟨v, rfl, h⟩ := lks1 hd
  obtain ⟨a, ys, rfl, h1, _, h2⟩ := lk_lst h
  cases q : blsD xs1 with
  | none => rw [q] at ho; cases ho
  | some bs =>
    rw [q] at ho
    cases ho
    have e := bls_V h2 q
    subst e
    exact cr_all hc pins s σ0 H _ us Q I r ⟨a, bs, rfl, .of h1, aft_bl S hA⟩
theorem cbi_any (hc : X.calm = true) : CallR X (.builtin "any") (rBi X hx "any") := by
  intro pins s σ0 H xs us Q I r ⟨σ, C, ds, o, S, hd, ho, hA⟩
  replace ho : Z.bi_any ds = some o := ho
  unfold Z.bi_any at ho
  split at ho <;> first | cases ho; done | skip
  rename_i xs1
  obtain ⟨v, rfl, h⟩ := lks1 hd
  obtain ⟨a, ys, rfl, h1, _, h2⟩ := lk_lst h
  cases q : blsD xs1 with
  | none => rw [q] at ho; cases ho
  | some bs =>
    rw [q] at ho
    cases ho
    have e := bls_V h2 q
    subst e
    exact cr_any hc pins s σ0 H _ us Q I r ⟨a, bs, rfl, .of h1, aft_bl S hA⟩
theorem cbi_tuple : CallR X (.type "tuple") (rBi X hx "tuple") := by
  intro pins s σ0 H xs us Q I r ⟨σ, C, ds, o, S, hd, ho, hA⟩
  replace ho : Z.bi_tuple ds = some o := ho
  unfold Z.bi_tuple at ho
  split at ho <;> first | cases ho; done | skip
  · rename_i xs1
    cases ho
    obtain ⟨v, rfl, h⟩ := lks1 hd
    obtain ⟨a, ys, rfl, h1, _, h2⟩ := lk_lst h
    exact call_tuple_of pins s σ0 H _ us Q I r ⟨a, ys, rfl, .inl ⟨.of h1, aft_tup S hA h2⟩⟩
  · rename_i xs1
    cases ho
    obtain ⟨v, rfl, h⟩ := lks1 hd
    have h' := h
    obtain ⟨a, ys, rfl, h1, h2⟩ := lk_tup h
    exact call_tuple_of pins s σ0 H _ us Q I r ⟨a, ys, rfl, .inr ⟨S.sqT h1, aft_frz S hA h'⟩⟩
/-! repr -/
mutual
theorem show_py : ∀ d : D, reprOk d = true → d.py.showable = true ∧ d.py.hasDict = false ∧ d.plain = true
  | .non, _ => ⟨rfl, rfl, rfl⟩
  | .bl _, _ => ⟨rfl, rfl, rfl⟩
  | .str _, _ => ⟨rfl, rfl, rfl⟩
  | .int i, h => by
    simp only [reprOk, decide_eq_true_eq] at h
    refine ⟨?_, rfl, rfl⟩
    simp only [D.py, PyData.showable]
    exact decide_eq_true (by omega)
  | .tup xs, h => by
    obtain ⟨a, b, c⟩ := shows_py xs (by simpa only [reprOk] using h)
    simp only [D.py, PyData.showable, PyData.hasDict, D.plain]
    exact ⟨a, b, c⟩
  | .lst xs, h => by
    obtain ⟨a, b, c⟩ := shows_py xs (by simpa only [reprOk] using h)
    simp only [D.py, PyData.showable, PyData.hasDict, D.plain]
    exact ⟨a, b, c⟩
  | .dct _, h => by simp [reprOk] at h
  | .fn _, h => by simp [reprOk] at h
  | .scr _, h => by simp [reprOk] at h
theorem shows_py : ∀ ds : List D, reprOks ds = true → PyData.showableAll (D.pys ds) = true ∧ PyData.hasDictAll (D.pys ds) = false ∧ D.plains ds = true
  | [], _ => ⟨rfl, rfl, rfl⟩
  | d :: r, h => by
    simp only [reprOks, Bool.and_eq_true] at h
    obtain ⟨a, b, c⟩ := show_py d h.1
    obtain ⟨a', b', c'⟩ := shows_py r h.2
    simp only [D.pys, PyData.showableAll, PyData.hasDictAll, D.plains]
    rw [a, a', b, b', c, c']
    exact ⟨rfl, rfl, rfl⟩
end
theorem cbi_repr (hg : X.A.guards = some []) (hu : X.A.units + 300 < cLine) : CallR X (.builtin "repr") (rBi X hx "repr") := by
  intro pins s σ0 H xs us Q I r ⟨σ, C, ds, o, S, hd, ho, hA⟩
  replace ho : Z.bi_repr ds = some o := ho
  unfold Z.bi_repr at ho
  split at ho <;> first | cases ho; done | skip
  rename_i d
  obtain ⟨v, rfl, h⟩ := lks1 hd
  cases q : reprD d with
  | none => rw [q] at ho; cases ho
  | some z =>
    rw [q] at ho
    cases ho
    obtain ⟨c, rfl⟩ := ite_some q
    simp only [Bool.and_eq_true, decide_eq_true_eq] at c
    obtain ⟨⟨c1, c2⟩, c3⟩ := c
    obtain ⟨p1, p2, p3⟩ := show_py d c1
    have hp := S.dpL p3 h
    have hq : Q (.str d.py.shown) H := aft_str S hA c3
    have big : ∀ {a : Addr} {u : Value}, us = [u] → RelV (.ref a) u → v = .ref a → wpAny (model X.prog X.w) X.A (call (.builtin "repr") us) (EP X pins σ0 Q) X.xe s := fun {a u} e1 e2 e3 => by
      subst e1 e3
      obtain rfl : u = Value.ref a := e2
      obtain ⟨as, rd⟩ := Dp.reads I _ _ _ hp rfl
      refine repr_of_reads' rd p1 (fun e => by rw [p2] at e; cases e) hg (by rw [depth_py d p3]; omega) (fun _ _ e => e) (fun h' u tk hk => ?_) (Nat.le_trans c3 lim_size)
      exact ⟨.str _, H, I.kept (t' := tk) hk, ⟨u, rfl⟩, hq⟩
    obtain ⟨u, hu1, hu2⟩ := Vals.one r
    cases d with
    | non =>
      obtain rfl := lk_non h
      subst hu1
      obtain rfl : u = Value.none := hu2
      exact PySem.P.repr_of_none ⟨.str _, H, I.tok _, ⟨_, rfl⟩, hq⟩
    | bl b =>
      obtain rfl := lk_bl h
      subst hu1
      obtain rfl : u = Value.bool b := hu2
      exact PySem.P.repr_of_bool ⟨.str _, H, I.tok _, ⟨_, rfl⟩, hq⟩
    | int i =>
      obtain rfl := lk_int h
      refine SkE.call_repr_int pins s σ0 H _ us Q I r ⟨i, rfl, ?_, hq⟩
      have := c1
      simp only [reprOk, decide_eq_true_eq] at this
      omega
    | str z =>
      obtain ⟨rfl, _⟩ := lk_str h
      subst hu1
      obtain ⟨t, rfl⟩ := hu2
      exact PySem.P.repr_of_str ⟨.str _, H, I.tok _, ⟨_, rfl⟩, hq⟩ (Nat.le_trans c3 lim_size)
    | tup ds =>
      obtain ⟨a, ys, rfl, _⟩ := lk_tup h
      exact big hu1 hu2 rfl
    | lst ds =>
      obtain ⟨a, ys, rfl, _⟩ := lk_lst h
      exact big hu1 hu2 rfl
    | dct _ => simp [reprOk] at c1
    | fn _ => simp [reprOk] at c1
    | scr _ => simp [reprOk] at c1
theorem cbi_str : CallR X (.type "str") (rBi X hx "str") := by
  intro pins s σ0 H xs us Q I r ⟨σ, C, ds, o, S, hd, ho, hA⟩
  replace ho : Z.bi_str ds = some o := ho
  unfold Z.bi_str at ho
  split at ho <;> first | cases ho; done | skip
  · rename_i i
    obtain ⟨c, rfl⟩ := ite_some ho
    have c := of_decide_eq_true c
    obtain ⟨v, rfl, h⟩ := lks1 hd
    obtain rfl := lk_int h
    refine call_str_int pins s σ0 H _ us Q I r ⟨i, rfl, by omega, aft_str S hA ?_⟩
    have e := PySem.int_text_length_le (k := 1920) (by decide) (show i.natAbs.log2 < 1920 by omega)
    show (Str.ofString (toString i)).length ≤ LIM
    rw [PySem.ofString_length]
    exact Nat.le_trans e (by decide)
  · rename_i z
    cases ho
    obtain ⟨v, rfl, h⟩ := lks1 hd
    obtain ⟨rfl, hz⟩ := lk_str h
    exact SkE.call_str_str pins s σ0 H _ us Q I r ⟨z, rfl, aft_str S hA hz⟩
/-! ### items, slices -/
def rSub (X : Cx) (hx : HX) : R2 := fun a b H Q => ∃ (σ : L2.St) (C : Ab) (u v d : D), Sm (gOf X hx) C σ H ∧ Lk (gOf X hx) C.F H u a ∧ Lk (gOf X hx) C.F H v b ∧ subD u v = some d ∧ Aft (gOf X hx) σ C H (.frz d) Q
theorem Rps.atI {g : G} {F : Hp} {ds : List D} {xs : List V} (h : Rps g F ds xs) {i : Int} {d : D} (e : (ixD ds.length i).bind (fun j => ds[j]?) = some d) : ∃ x, L2.atI xs i = some x ∧ Rp g F d x := by
  have e1 : (L2.ixN ds.length i).bind (fun j => ds[j]?) = some d := e
  unfold L2.atI
  rw [← h.length]
  cases q : L2.ixN ds.length i with
  | none => rw [q] at e1; cases e1
  | some j =>
    rw [q] at e1
    exact h.get (i := j) e1
theorem ix_sub (hu : X.A.units + 300 < cLine) : IxR X (rSub X hx) := by
  intro value slice pins s σ0 H x y v u Q I rx ry ⟨σ, C, d, e, r, S, hd, he, ho, hA⟩ hs
  cases d with
  | tup ds =>
    obtain ⟨a, xs, rfl, h1, h2⟩ := lk_tup hd
    cases e <;> simp only [subD] at ho <;> first | cases ho; done | skip
    case int i =>
      obtain rfl := lk_int he
      obtain ⟨z, e1, r1⟩ := h2.atI ho
      exact ix_tup value slice pins s σ0 H _ _ v u Q I rx ry ⟨a, xs, i, z, rfl, rfl, S.sqT h1, e1, aft_frz S hA r1⟩ hs
  | lst ds =>
    obtain ⟨a, xs, rfl, h1, _, h2⟩ := lk_lst hd
    cases e <;> simp only [subD] at ho <;> first | cases ho; done | skip
    case int i =>
      obtain rfl := lk_int he
      obtain ⟨z, e1, r1⟩ := h2.atI ho
      exact ix_list value slice pins s σ0 H _ _ v u Q I rx ry ⟨a, xs, i, z, rfl, rfl, .of h1, e1, aft_frz S hA r1⟩ hs
  | str z =>
    obtain ⟨rfl, hz⟩ := lk_str hd
    cases e <;> simp only [subD] at ho <;> first | cases ho; done | skip
    case int i =>
      obtain rfl := lk_int he
      cases q : ixD z.length i with
      | none => rw [q] at ho; cases ho
      | some j =>
        rw [q] at ho
        have ho : (z.cps[j]?).map (fun c => D.str ⟨#[c]⟩) = some r := ho
        cases w : z.cps[j]? with
        | none => rw [w] at ho; cases ho
        | some c =>
          rw [w] at ho
          cases ho
          refine ix_str value slice pins s σ0 H _ _ v u Q I rx ry ⟨z, i, c, rfl, rfl, Nat.le_trans hz lim_size, ?_, aft_str S hA (by show 1 ≤ LIM; decide)⟩ hs
          unfold L2.atI
          have e1 : z.cps.toList.length = z.length := by simp [Str.length]
          rw [e1]
          have q' : L2.ixN z.length i = some j := q
          rw [q']
          show z.cps.toList[j]? = some c
          rw [Array.getElem?_toList]; exact w
  | dct kvs =>
    have ho : (if askOk kvs e then dget kvs e else none) = some r := by cases e <;> exact ho
    obtain ⟨a, rfl, h⟩ := hd
    cases c : askOk kvs e with
    | false => rw [c] at ho; simp at ho
    | true =>
      rw [c] at ho
      have ho : dget kvs e = some r := by simpa using ho
      obtain rfl : v = Value.ref a := rx
      rcases dct_ask c he h with ⟨o, g1, g2⟩ | ⟨z, es, n, ru, rfl, kd, hr, g2⟩
      · rcases g2 with ⟨e1, _⟩ | ⟨d1, v1, e1, rfl, r1⟩
        · rw [ho] at e1; cases e1
        · rw [ho] at e1
          cases e1
          exact PyProof.Rows.tail_any (dict_typeIs I g1) PySem.F.slot_dict_getitem.lookup (d_getItem (by omega) I g1 ry fun w' s3 I3 rw' => ⟨v1, H, I3, rw', aft_frz S hA r1⟩) hs
      · rcases g2 with ⟨e1, _⟩ | ⟨d1, u1, v1, e1, rfl, rv, r1⟩
        · rw [ho] at e1; cases e1
        · rw [ho] at e1
          cases e1
          exact PyProof.Rows.tail_any (kd_type kd I) PySem.F.slot_dict_getitem.lookup (op_item_kd kd pins s σ0 H (V.ref a) _ (Value.ref a) u Q I rfl ry ⟨z, u1, v1, rfl, rfl, hr, rv, aft_frz S hA r1⟩) hs
  | _ => cases e <;> (simp only [subD] at ho; cases ho)
def rSlc (X : Cx) (hx : HX) : V → Option Int → Option Int → Hp → VK → Prop := fun x lo hi H Q => ∃ (σ : L2.St) (C : Ab) (u : D) (o : O), Sm (gOf X hx) C σ H ∧ Lk (gOf X hx) C.F H u x ∧ slcD u lo hi = some o ∧ Aft (gOf X hx) σ C H o Q
theorem Rps.cut {g : G} {F : Hp} {ds : List D} {xs : List V} (h : Rps g F ds xs) (lo hi : Option Int) : Rps g F (cutD ds lo hi) (cutV xs lo hi) := by
  unfold cutD cutV
  rw [← h.length]
  exact (h.drop _).take _
theorem sl_slc : SlR X (rSlc X hx) := by
  intro pins s σ0 H x v vl vu lo hi sl Q I rx hs pl pu ⟨σ, C, d, o, S, hd, ho, hA⟩
  cases d with
  | tup ds =>
    obtain ⟨a, xs, rfl, h1, h2⟩ := lk_tup hd
    have ho : some (O.frz (.tup (cutD ds lo hi))) = some o := ho
    cases ho
    have hc := h2.cut lo hi
    refine sl_tupA pins s σ0 H _ v vl vu lo hi sl Q I rx hs pl pu ⟨a, xs, rfl, S.sqT h1, fun ⟨e1, e2⟩ => ?_, fun _ => aft_tup S hA hc⟩
    have e3 : cutV xs lo hi = xs := by
      unfold cutV
      rw [e1, e2]
      simp
    refine aft_frz S hA ?_
    simp only [Rp]
    rw [e3] at hc
    exact ⟨a, xs, rfl, h1, hc⟩
  | lst ds =>
    obtain ⟨a, xs, rfl, h1, _, h2⟩ := lk_lst hd
    have ho : some (O.lst (cutD ds lo hi)) = some o := ho
    cases ho
    exact sl_list pins s σ0 H _ v vl vu lo hi sl Q I rx hs pl pu ⟨a, xs, rfl, .of h1, aft_lst S hA (h2.cut lo hi)⟩
  | str z =>
    obtain ⟨rfl, hz⟩ := lk_str hd
    have ho : some (O.frz (.str ⟨(cutD z.cps.toList lo hi).toArray⟩)) = some o := ho
    cases ho
    refine sl_str pins s σ0 H _ v vl vu lo hi sl Q I rx hs pl pu ⟨z, rfl, Nat.le_trans hz lim_size, ?_⟩
    have e : cutS z lo hi = ⟨(cutD z.cps.toList lo hi).toArray⟩ := by
      unfold cutS cutD
      have e1 : z.cps.toList.length = z.length := by simp [Str.length]
      rw [e1]
    rw [e]
    refine aft_str S hA ?_
    show (cutD z.cps.toList lo hi).toArray.size ≤ LIM
    unfold cutD
    have e1 : z.cps.toList.length = z.length := by simp [Str.length]
    simp only [List.size_toArray, List.length_take, List.length_drop, e1]
    omega
  | _ => cases ho
/-! ### methods -/
theorem le_sum_mem : ∀ {l : List Nat} {x : Nat}, x ∈ l → x ≤ l.sum
  | a :: r, x, h => by
    simp only [List.sum_cons]
    rcases List.mem_cons.mp h with e | e
    · omega
    · have := le_sum_mem e; omega
def rMt (X : Cx) (hx : HX) (m : Str) : V → List V → Hp → VK → Prop := fun x vs H Q => ∃ (σ : L2.St) (C : Ab) (u : D) (ds : List D) (o : O), Sm (gOf X hx) C σ H ∧ Lk (gOf X hx) C.F H u x ∧ Lks (gOf X hx) C.F H ds vs ∧ methD m u ds = some o ∧ Aft (gOf X hx) σ C H o Q
theorem cmt_split : MtR X "str.split" (rMt X hx "split") := by
  intro pins s σ0 H x vs v us Q I rx rvs ⟨σ, C, u, ds, o, S, hd, hds, ho, hA⟩
  replace ho : Z.mt_split u ds = some o := ho
  unfold Z.mt_split at ho
  split at ho <;> first | cases ho; done | skip
  rename_i z y
  obtain ⟨c, rfl⟩ := ite_some ho
  simp only [Bool.and_eq_true, decide_eq_true_eq] at c
  obtain ⟨rfl, hz⟩ := lk_str hd
  obtain ⟨w, rfl, hw⟩ := lks1 hds
  obtain ⟨rfl, hy⟩ := lk_str hw
  refine L2.mt_split pins s σ0 H _ _ v us Q I rx rvs ⟨z, y, rfl, rfl, beq_eq_false_iff_ne.mpr (by omega), Nat.le_trans c.2 lim_size, ?_⟩
  have hl : ∀ q ∈ PySem.Txt.split z y, q.length ≤ LIM := fun q hq => by
    have e1 := PyProof.Rows.split_weight z y (by omega)
    have e2 : q.length ≤ ((PySem.Txt.split z y).map (·.length)).sum := le_sum_mem (List.mem_map.mpr ⟨q, hq, rfl⟩)
    have e3 : 1 ≤ (PySem.Txt.split z y).length := List.length_pos_of_mem hq
    have hz' : z.length ≤ LIM := hz
    omega
  have r : Rps (gOf X hx) C.F ((PySem.Txt.split z y).map D.str) ((PySem.Txt.split z y).map V.str) := by
    have : ∀ l : List Str, (∀ q ∈ l, q.length ≤ LIM) → Rps (gOf X hx) C.F (l.map D.str) (l.map V.str) := by
      intro l
      induction l with
      | nil => intro _; exact .nil
      | cons a r ih =>
        intro h
        refine Rps.cons ?_ (ih fun q hq => h q (List.mem_cons_of_mem _ hq))
        simp only [Rp, true_and]
        exact h a List.mem_cons_self
    exact this _ hl
  exact aft_lst S hA r
theorem cmt_join : MtR X "str.join" (rMt X hx "join") := by
  intro pins s σ0 H x vs v us Q I rx rvs ⟨σ, C, u, ds, o, S, hd, hds, ho, hA⟩
  replace ho : Z.mt_join u ds = some o := ho
  unfold Z.mt_join at ho
  split at ho <;> first | cases ho; done | skip
  rename_i z xs
  obtain ⟨rfl, hz⟩ := lk_str hd
  obtain ⟨w, rfl, hw⟩ := lks1 hds
  obtain ⟨a, ys, rfl, h1, _, h2⟩ := lk_lst hw
  cases q : strsD xs with
  | none => rw [q] at ho; cases ho
  | some bs =>
    rw [q] at ho
    obtain ⟨c, rfl⟩ := ite_some (show (if decide ((bs.map (·.length)).sum + bs.length * z.length ≤ LIM) then some (O.frz (.str (PySem.Txt.join z bs))) else none) = some o from ho)
    have c := of_decide_eq_true c
    have e := strs_V h2 q
    subst e
    have hl : LIM ≤ 16777216 := by decide
    refine L2.mt_join pins s σ0 H _ _ v us Q I rx rvs ⟨z, a, bs, rfl, rfl, .inl (.of h1), by omega, aft_str S hA ?_⟩
    have e2 := StrLaws.join_length_le z bs
    show (PySem.Builtin.Str.glued z bs).length ≤ LIM
    rw [StrLaws.glued_eq_join]
    exact Nat.le_trans e2 c
theorem cmt_startswith : MtR X "str.startswith" (rMt X hx "startswith") := by
  intro pins s σ0 H x vs v us Q I rx rvs ⟨σ, C, u, ds, o, S, hd, hds, ho, hA⟩
  replace ho : Z.mt_startswith u ds = some o := ho
  unfold Z.mt_startswith at ho
  split at ho <;> first | cases ho; done | skip
  rename_i z y
  cases ho
  obtain ⟨rfl, hz⟩ := lk_str hd
  obtain ⟨w, rfl, hw⟩ := lks1 hds
  obtain ⟨rfl, hy⟩ := lk_str hw
  exact L2.mt_startswith pins s σ0 H _ _ v us Q I rx rvs ⟨z, y, rfl, rfl, aft_bl S hA⟩
theorem cmt_endswith : MtR X "str.endswith" (rMt X hx "endswith") := by
  intro pins s σ0 H x vs v us Q I rx rvs ⟨σ, C, u, ds, o, S, hd, hds, ho, hA⟩
  replace ho : Z.mt_endswith u ds = some o := ho
  unfold Z.mt_endswith at ho
  split at ho <;> first | cases ho; done | skip
  rename_i z y
  cases ho
  obtain ⟨rfl, hz⟩ := lk_str hd
  obtain ⟨w, rfl, hw⟩ := lks1 hds
  obtain ⟨rfl, hy⟩ := lk_str hw
  exact L2.mt_endswith pins s σ0 H _ _ v us Q I rx rvs ⟨z, y, rfl, rfl, aft_bl S hA⟩
theorem pys_map : ∀ l : List D, D.pys l = l.map D.py
  | [] => by simp only [D.pys, List.map_nil]
  | d :: r => by simp only [D.pys, List.map_cons]; rw [pys_map r]
theorem cmt_index (hu : X.A.units + 300 < cLine) : MtR X "list.index" (rMt X hx "index") := by
  intro pins s σ0 H x vs v us Q I rx rvs ⟨σ, C, u, ds, o, S, hd, hds, ho, hA⟩
  replace ho : Z.mt_index u ds = some o := ho
  unfold Z.mt_index at ho
  split at ho <;> first | cases ho; done | skip
  rename_i xs y
  obtain ⟨w, rfl, hw⟩ := lks1 hds
  have hl := hd
  obtain ⟨a, ys, rfl, h1, _, h2⟩ := lk_lst hd
  cases q : indexD xs y with
  | none => rw [q] at ho; cases ho
  | some j =>
    rw [q] at ho
    cases ho
    unfold indexD at q
    cases c : (eqOk y && xs.all eqOk) with
    | false => rw [c] at q; simp at q
    | true =>
      rw [c] at q
      have q : xs.findIdx? (fun z => D.eqv z y) = some j := by simpa using q
      simp only [Bool.and_eq_true] at c
      obtain ⟨p1, s1⟩ := eqOk_inv c.1
      obtain ⟨p2, s2⟩ := shaped_lst c.2
      have pl := (eqOk_all c.2).1
      have plj : ∀ (m : Nat) (d : D), xs[m]? = some d → d.plain = true := fun m d e => by
        have hm := List.mem_of_getElem? e
        have := List.all_eq_true.mp c.2 d hm
        simp only [eqOk, Bool.and_eq_true] at this
        exact this.1.1
      obtain ⟨hj, hpj, hno⟩ := List.findIdx?_eq_some_iff_getElem.mp q
      refine mt_indexD (by omega) pins s σ0 H _ _ v us Q I rx rvs ⟨a, w, y.py, D.pys xs, j, xs[j].py, rfl, rfl, ?_, S.dpL p1 hw, ?_, s1, ?_, ?_, fun m z' hm hz => ?_, aft_int S hA⟩
      · have q := S.dpL p2 hl
        simpa only [D.py] using q
      · simpa only [D.py] using s2
      · rw [pys_map, List.getElem?_map, List.getElem?_eq_getElem hj] <;> rfl
      · rw [eqv_py _ _ (plj j _ (List.getElem?_eq_getElem hj)) p1]; exact hpj
      · have hmj : m < xs.length := by omega
        rw [pys_map, List.getElem?_map, List.getElem?_eq_getElem hmj] at hz
        have e : xs[m].py = z' := Option.some.inj hz
        rw [← e, eqv_py _ _ (plj m _ (List.getElem?_eq_getElem hmj)) p1]
        simpa using hno m hm
/-- == of a flat value, on the model's values -/
def eqFl (v : V) (u : Value) : Bool := match absV u with
  | some x => eqV x v
  | none => false
theorem eqFl_count {g : G} {F : Hp} {d : D} {v : V} (hd : Rp g F d v) (fd : flatD d = true) : ∀ {ds : List D} {xs : List V} {us : List Value}, Rps g F ds xs → ds.all flatD = true → Vals xs us → us.countP (eqFl v) = ds.countP fun y => D.eqv y d
  | [], xs, us, h, _, r => by
    rw [h.nil_inv] at r
    cases r; rfl
  | e :: t, xs, us, h, f, r => by
    obtain ⟨x, xs', rfl, h1, h2⟩ := h.inv
    simp only [List.all_cons, Bool.and_eq_true] at f
    cases r with
    | cons r1 r2 =>
      rename_i u us'
      have ih := eqFl_count hd fd h2 f.2 r2
      rw [List.countP_cons, List.countP_cons, ih]
      have q : eqFl v u = D.eqv e d := by
        unfold eqFl
        rw [r1.abs]
        exact flat_eq h1 f.1 hd fd
      rw [q]
theorem cmt_count (hu : X.A.units + 300 < cLine) : MtR X "list.count" (rMt X hx "count") := by
  intro pins s σ0 H x vs v us Q I rx rvs ⟨σ, C, u, ds, o, S, hd, hds, ho, hA⟩
  replace ho : Z.mt_count u ds = some o := ho
  unfold Z.mt_count at ho
  split at ho <;> first | cases ho; done | skip
  rename_i xs y
  obtain ⟨c, rfl⟩ := ite_some ho
  simp only [Bool.and_eq_true] at c
  obtain ⟨w, rfl, hw⟩ := lks1 hds
  obtain ⟨a, ys, rfl, h1, _, h2⟩ := lk_lst hd
  obtain rfl : v = Value.ref a := rx
  obtain ⟨u1, rfl, ru⟩ := rvs.one
  have rw' := lk_flat hw c.1
  obtain ⟨z, its, n, rv, hl, ho⟩ := I.lstM h1
  have fall := flat_all h2 c.2
  refine call_meets PySem.F.slot_list_count ⟨_, ho, rfl⟩ PySem.F.entry_list_count (PySem.F.args_list_count_2 _ _)
    (SeqAt.list_countAt a its.toArray n none #[] u1 (eqFl w)) ⟨ho, fun y hy => ?_, ?_⟩
  · have hy' : y ∈ its := by simpa using hy
    obtain ⟨j, hj, e⟩ := List.mem_iff_getElem.mp hy'
    have hjx : j < ys.length := by omega
    obtain ⟨u2, e2, r2⟩ := rv.get (i := j) (x := ys[j]) (List.getElem?_eq_getElem hjx)
    have e3 : y = u2 := by
      rw [List.getElem?_eq_getElem hj, e] at e2
      exact Option.some.inj e2
    subst e3
    have q : eqFl w y = eqV ys[j] w := by
      unfold eqFl
      rw [r2.abs]
    rw [q]
    exact eqAt_V r2 ru (List.all_eq_true.mp fall _ (List.getElem_mem hjx)) (flat_V rw' c.1)
  · have e := eqFl_count rw' c.1 h2 c.2 rv
    refine ⟨.int _, H, I.tok _, ⟨s.toks, rfl⟩, ?_⟩
    have e2 : its.toArray.toList.countP (eqFl w) = xs.countP fun z => D.eqv z y := e
    rw [e2]
    exact aft_int S hA
end
end Z
end

section
set_option Elab.async false
set_option linter.all false
set_option maxRecDepth 100000
set_option maxHeartbeats 1000000
/-! ZDen: the syntax rebuilt; what an expression does, by its parts. -/
namespace Z
open PySem L2

mutual
def toX : E → Expr
  | .non k p => .Constant .none k p
  | .bl b k p => .Constant (.bool b) k p
  | .int i k p => .Constant (.int i) k p
  | .str s k p => .Constant (.str s) k p
  | .var _ x p => .Name x p
  | .glb x p => .Name x p
  | .bin op a b p => .BinOp (toX a) op.x (toX b) p
  | .neg a p => .UnaryOp .USub (toX a) p
  | .nt a p => .UnaryOp .Not (toX a) p
  | .band es p => .BoolOp .And (toXs es) p
  | .bor es p => .BoolOp .Or (toXs es) p
  | .cmp op a b p => .Compare (toX a) [op.x] [toX b] p
  | .chn o1 o2 a b c p => .Compare (toX a) [o1.x, o2.x] [toX b, toX c] p
  | .chn3 o1 o2 o3 a b c d p => .Compare (toX a) [o1.x, o2.x, o3.x] [toX b, toX c, toX d] p
  | .ife c a b p => .IfExp (toX c) (toX a) (toX b) p
  | .call x es p q => .Call (.Name x p) (toXs es) [] q
  | .bi x es p q => .Call (.Name x p) (toXs es) [] q
  | .calle f es q => .Call (toX f) (toXs es) [] q
  | .meth o m es p q => .Call (.Attribute (toX o) m p) (toXs es) [] q
  | .attr o m p => .Attribute (toX o) m p
  | .sub a i p => .Subscript (toX a) (toX i) p
  | .slc a lo hi st p q => .Subscript (toX a) (.Slice (toXo lo) (toXo hi) (toXo st) p) q
  | .lst es p => .List (toXs es) p
  | .tup es k p => .Tuple (toXs es) k p
  | .star e p => .Starred (toX e) p
  | .dic ks vs p => .Dict (toXks ks) (toXs vs) p
  | .lc el tg it ifs _ sc p => .ListComp (toX el) [⟨toX tg, toX it, toXs ifs, 0⟩] sc p
  | .lc2 el tg it tg2 it2 ifs2 _ sc p => .ListComp (toX el) [⟨toX tg, toX it, [], 0⟩, ⟨toX tg2, toX it2, toXs ifs2, 0⟩] sc p
  | .dc k v tg it ifs _ sc p => .DictComp (toX k) (toX v) [⟨toX tg, toX it, toXs ifs, 0⟩] sc p
def toXs : List E → List Expr
  | [] => []
  | e :: r => toX e :: toXs r
def toXks : List E → List (Option Expr)
  | [] => []
  | e :: r => some (toX e) :: toXks r
def toXo : Option E → Option Expr
  | none => none
  | some e => some (toX e)
end

/-! ### shapes -/
def isStar : E → Bool
  | .star _ _ => true
  | _ => false
def isTst : E → Bool
  | .ife _ _ _ _ => true
  | .nt _ _ => true
  | .band _ _ => true
  | .bor _ _ => true
  | .cmp _ _ _ _ => true
  | .chn _ _ _ _ _ _ => true
  | .chn3 _ _ _ _ _ _ _ _ => true
  | _ => false
theorem star_each {e : E} (h : isStar e = false) (es : List Expr) (env : PySem.Env) : starEach (toX e :: es) env = (false, eval (toX e) env) :: starEach es env := by
  cases e <;> first | rfl | cases h
theorem star_all : ∀ {es : List E}, es.all (fun e => !isStar e) = true → ∀ (p : Pos) (env : PySem.Env), (backTo p (starEach (toXs es) env)).any (·.1) = false
  | [], _, _, _ => rfl
  | e :: r, h, p, env => by
    simp only [List.all_cons, Bool.and_eq_true, Bool.not_eq_true'] at h
    have ih := star_all h.2 p env
    show (backTo p (starEach (toX e :: toXs r) env)).any (·.1) = false
    rw [star_each h.1]
    show (false || (backTo p (starEach (toXs r) env)).any (·.1)) = false
    rw [ih] <;> rfl
theorem plain_test {e : E} (h : isTst e = false) (env : PySem.Env) : ∀ whole, isTrue (toX e) env whole = (do let v ← whole; standAt (toX e).pos; holding [v] (truthy v)) := by
  intro whole
  cases e <;> first | rfl | cases h
theorem plain_ix {e : E} : PlainIx (toX e) := by
  intro o i
  cases e <;> rfl
theorem no_marks {e : E} (op : CmpOp) : behindInMarks op (toX e) = false := by
  cases e <;> rfl
theorem no_set {e : E} (env : PySem.Env) : ∀ x, foldedSetIterable (toX e) env x = pure x := by
  intro x
  cases e <;> rfl

section
variable {X : Cx} {hx : HX} {W : WX}
/-! ### lists of operands -/
theorem RepA.step {g : G} {σ σ' : L2.St} {B C : Ab} {H H' : Hp} {a : Z.A} {v : V} (h : RepA g σ B a v) (st : Step g B H C σ' H') : RepA g σ C a v := by
  cases a with
  | val d => exact Rp.ext st.fr.ext _ _ h
  | plc i => exact h
theorem RepAs.step {g : G} {σ σ' : L2.St} {B C : Ab} {H H' : Hp} : ∀ {as : List Z.A} {vs : List V}, RepAs g σ B as vs → Step g B H C σ' H' → RepAs g σ C as vs
  | [], _, h, _ => h
  | a :: r, vs, ⟨v, vs', e, h1, h2⟩, st => ⟨v, vs', e, h1.step st, h2.step st⟩
theorem gets_cons {s : Env} {a : Z.A} {as : List Z.A} {ds : List D} (h : gets s (a :: as) = some ds) : ∃ d ds', ds = d :: ds' ∧ a.get s = some d ∧ gets s as = some ds' := by
  unfold gets at h ⊢
  rw [List.mapM_cons] at h
  cases e : a.get s with
  | none => rw [e] at h; cases h
  | some d =>
    rw [e] at h
    cases e2 : as.mapM (Z.A.get s) with
    | none => rw [e2] at h; cases h
    | some ds' =>
      rw [e2] at h
      cases h
      exact ⟨d, ds', rfl, rfl, rfl⟩
theorem RepAs.later {g : G} {σ : L2.St} {B C : Ab} {H H' : Hp} : ∀ {as : List Z.A} {vs : List V} {ds : List D}, RepAs g σ B as vs → Step g B H C σ H' → gets C.env as = some ds → Lks g C.F H' ds vs
  | [], vs, ds, h, _, e => by
    have h' : vs = [] := h
    subst h'
    have e' : ds = [] := by
      unfold gets at e
      rw [List.mapM_nil] at e
      cases e; rfl
    subst e'
    rfl
  | a :: r, vs, ds, ⟨v, vs', ev, h1, h2⟩, st, e => by
    obtain ⟨d, ds', rfl, e1, e2⟩ := gets_cons e
    exact ⟨v, vs', ev, h1.later st e1, h2.later st e2⟩
/-- an operand list, by its operands -/
theorem pa_as {C : Cxt} : ∀ {es : List E}, es.all (fun e => !isStar e) = true → (∀ e ∈ es, PE X (toX e) (RdA (gOf X hx) W (den C e).a)) → PA X (toXs es) (RdAs (gOf X hx) W (asM (dens C es)))
  | [], _, _ => PA.weak pa_nil fun σ H Q ⟨A, S, q⟩ => Go.pure S q [] rfl
  | e :: r, h, p => by
    simp only [List.all_cons, Bool.and_eq_true, Bool.not_eq_true'] at h
    have ih := pa_as (C := C) h.2 fun e' he => p e' (List.mem_cons_of_mem _ he)
    refine PA.weak (pa_cons (p e List.mem_cons_self) ih (star_each h.1 _ _)) fun σ H Q ⟨A, S, q⟩ => ?_
    refine ⟨A, S, (Go.split q).mono fun a B H1 st q1 v r1 => ⟨B, st.sim, (Go.split q1).mono fun as D H2 st2 q2 vs r2 => ?_⟩⟩
    exact Go.pure st2.sim q2 (v :: vs) ⟨v, vs, rfl, r1.step st2, r2⟩
theorem Go.many {α : Type} {g : G} {σ : L2.St} {A : Ab} {H : Hp} {xs : M (List Z.A)} {kk : List D → M α} {k : α → Ab → Hp → Prop} (h : Go g W σ A H ((many xs kk) A.env) k) :
    Go g W σ A H (xs A.env) fun as C H2 => ∃ ds, gets C.env as = some ds ∧ Go g W σ C H2 (kk ds C.env) k := by
  refine (Go.split h).mono fun as C H2 st h2 => ?_
  have h2' : Go g W σ C H2 (match gets C.env as with
    | some ds => kk ds C.env
    | none => .st) k := h2
  cases e1 : gets C.env as with
  | none => rw [e1] at h2'; exact h2'.elim
  | some u =>
    rw [e1] at h2'
    exact ⟨u, rfl, h2'⟩
/-- data lists -/
def RdDs (g : G) (W : WX) (m : M (List D)) : TA := fun σ H Q => ∃ A, Sm g A σ H ∧ Go g W σ A H (m A.env) fun ds B H' => ∀ vs, Rps g B.F ds vs → Q vs H'
theorem pa_ds {C : Cxt} : ∀ {es : List E}, es.all (fun e => !isStar e) = true → (∀ e ∈ es, PE X (toX e) (RdV (gOf X hx) W (den C e).v)) → PA X (toXs es) (RdDs (gOf X hx) W (dsM (dens C es)))
  | [], _, _ => PA.weak pa_nil fun σ H Q ⟨A, S, q⟩ => Go.pure S q [] .nil
  | e :: r, h, p => by
    simp only [List.all_cons, Bool.and_eq_true, Bool.not_eq_true'] at h
    have ih := pa_ds (C := C) h.2 fun e' he => p e' (List.mem_cons_of_mem _ he)
    refine PA.weak (pa_cons (pe_dOf (p e List.mem_cons_self)) ih (star_each h.1 _ _)) fun σ H Q ⟨A, S, q⟩ => ?_
    refine ⟨A, S, (Go.split q).mono fun a B H1 st q1 v r1 => ⟨B, st.sim, (Go.split q1).mono fun as D H2 st2 q2 vs r2 => ?_⟩⟩
    exact Go.pure st2.sim q2 (v :: vs) (.cons (Rp.ext st2.fr.ext _ _ r1) r2)
theorem den_star {C : Cxt} {e : E} (h : isStar e = false) : (den C e).star = false := by
  cases e
  case star => cases h
  case bi x es p q =>
    show (if isWalk x = true then mkI M.stuck (walkM x (dens C es)) ((walkM x (dens C es)).bind fun ds => M.pure (.val (.lst ds))) else mkV (biM C x es (dens C es))).star = false
    split <;> rfl
  case meth o m es p q =>
    show (if (m == "items" || m == "values") = true then mkI M.stuck (viewM m (den C o)) ((viewM m (den C o)).bind fun ds => M.pure (.val (.lst ds))) else mkV (methM C m (den C o) (dens C es))).star = false
    split <;> rfl
  all_goals rfl
theorem spM_ds {C : Cxt} : ∀ {es : List E}, es.all (fun e => !isStar e) = true → spM (dens C es) = dsM (dens C es)
  | [], _ => rfl
  | e :: r, h => by
    simp only [List.all_cons, Bool.and_eq_true, Bool.not_eq_true'] at h
    have ih := spM_ds (C := C) h.2
    show (if (den C e).star then _ else _) = _
    rw [den_star h.1, ih] <;> rfl
end
end Z
end

section
set_option Elab.async false
set_option linter.all false
set_option maxRecDepth 100000
set_option maxHeartbeats 1000000
/-! ZIt: truth, what a loop walks, targets; the modes put together. -/
namespace Z
open PySem L2

section
variable {X : Cx} {hx : HX} {W : WX}
theorem pt_tOf {e : E} {m : M Z.A} (ht : isTst e = false) (p : PE X (toX e) (RdA (gOf X hx) W m)) : PT X (toX e) (RdT (gOf X hx) W (tOf m)) :=
  PT.weak (pt_truth p (plain_test ht _)) fun σ H Q ⟨A, S, q⟩ => by
    refine ⟨A, S, (Go.split q).mono fun a B H1 st q1 v r => ?_⟩
    have q2 : Go (gOf X hx) W σ B H1 (match a.get B.env with
      | some d => opt d.tru B.env
      | none => .st) fun b B H' => Q b H' := q1
    cases e1 : a.get B.env with
    | none => rw [e1] at q2; exact q2.elim
    | some d =>
      rw [e1] at q2
      obtain ⟨b, e2, q3⟩ := Go.opt st.sim q2
      exact ⟨b, tru_lk st.sim (r.later (.refl st.sim) e1) e2, q3⟩
/-! ### walked values -/
/-- J yields ds, at whatever state that knows all that F tells -/
def Walked (g : G) (J : It) (F : Hp) (ds : List D) : Prop :=
  ∀ (σ : L2.St) (B : Ab) (H : Hp), Ext F B.F → Sm g B σ H → (J.stop ds.length H) ∧ ∀ (i : Nat) (d : D), ds[i]? = some d → J.go i H ∧ ∀ x H', J.yld i H x H' → ∃ C : Ab, C.env = B.env ∧ Step g B H C σ H' ∧ Rp g C.F d x
def RdI (g : G) (W : WX) (m : M (List D)) : TI := fun σ H R => ∃ A, Sm g A σ H ∧ Go g W σ A H (m A.env) fun ds B H' => ∀ J, Walked g J B.F ds → R J H'
theorem Rps.get' {g : G} {F : Hp} {ds : List D} {xs : List V} (h : Rps g F ds xs) {i : Nat} {d : D} (e : ds[i]? = some d) : ∃ x, xs[i]? = some x ∧ Rp g F d x := h.get e
theorem walk_lst {g : G} {F : Hp} {a : Addr} {ds : List D} {xs : List V} (hl : ∀ (σ : L2.St) (B : Ab) (H : Hp), Ext F B.F → Sm g B σ H → SqL g.K H a xs) (r : Rps g F ds xs) : Walked g (Itl g.K a) F ds := by
  intro σ B H ex S
  have q := hl σ B H ex S
  refine ⟨⟨xs, q, by rw [r.length]; exact Nat.le_refl _⟩, fun i d e => ?_⟩
  obtain ⟨x, hx, rx⟩ := r.get e
  refine ⟨⟨xs, x, q, hx⟩, fun y H' hy => ?_⟩
  obtain ⟨e1, hy⟩ := hy
  subst e1
  have e2 : y = x := by
    have := hy xs q
    rw [hx] at this
    exact (Option.some.inj this).symm
  subst e2
  exact ⟨B, rfl, .refl S, Rp.ext ex _ _ rx⟩
theorem walk_tup {g : G} {F : Hp} {a : Addr} {ds : List D} {xs : List V} (hl : ∀ (σ : L2.St) (B : Ab) (H : Hp), Ext F B.F → Sm g B σ H → SqT g.K H a xs) (r : Rps g F ds xs) : Walked g (Itt g.K a) F ds := by
  intro σ B H ex S
  have q := hl σ B H ex S
  refine ⟨⟨xs, q, by rw [r.length]; exact Nat.le_refl _⟩, fun i d e => ?_⟩
  obtain ⟨x, hx, rx⟩ := r.get e
  refine ⟨⟨xs, x, q, hx⟩, fun y H' hy => ?_⟩
  obtain ⟨e1, hy⟩ := hy
  subst e1
  have e2 : y = x := by
    have := hy xs q
    rw [hx] at this
    exact (Option.some.inj this).symm
  subst e2
  exact ⟨B, rfl, .refl S, Rp.ext ex _ _ rx⟩
theorem walk_str {g : G} {F : Hp} {z : Str} : Walked g (Its z) F (z.cps.toList.map fun c => D.str ⟨#[c]⟩) := by
  intro σ B H ex S
  refine ⟨by show z.cps.size ≤ _; simp, fun i d e => ?_⟩
  rw [List.getElem?_map, Array.getElem?_toList] at e
  cases h : z.cps[i]? with
  | none => rw [h] at e; cases e
  | some c =>
    rw [h] at e
    cases e
    refine ⟨(Array.getElem?_eq_some_iff.mp h).1, fun y H' hy => ?_⟩
    obtain ⟨e1, c', h', rfl⟩ := hy
    subst e1
    rw [h] at h'
    cases h'
    refine ⟨B, rfl, .refl S, ?_⟩
    simp only [Rp, true_and]
    show 1 ≤ LIM
    decide
theorem walk_rng {g : G} {F : Hp} {lo : Int} {n : Nat} : Walked g (Itr lo n) F ((List.range n).map fun (k : Nat) => D.int (lo + (k : Int))) := by
  intro σ B H ex S
  refine ⟨by show n ≤ _; simp, fun i d e => ?_⟩
  rw [List.getElem?_map] at e
  by_cases hi : i < n
  · rw [List.getElem?_range hi] at e
    cases e
    refine ⟨hi, fun y H' hy => ?_⟩
    obtain ⟨e1, e2⟩ := hy
    subst e1 e2
    exact ⟨B, rfl, .refl S, by simp only [Rp]⟩
  · rw [List.getElem?_eq_none (by simpa using hi)] at e
    cases e
/-- a value that has come, walked: a list, a tuple, a text -/
def iVal (K : PySem.W.Frag) (te : TE) : TI := fun σ H R => te σ H fun x H1 => (∃ a xs, x = .ref a ∧ SqL K H1 a xs ∧ R (Itl K a) H1) ∨ (∃ a xs, x = .ref a ∧ SqT K H1 a xs ∧ R (Itt K a) H1) ∨ ∃ z, x = .str z ∧ R (Its z) H1
theorem pi_val {tg l : Expr} {te : TE} (he : PE X l te) : PI X tg l (iVal X.K te) := by
  refine ⟨fun pins s σ H R I h => thn (he.run pins s σ H _ I h) fun v s1 hq => ?_⟩
  obtain ⟨x, H1, I1, r1, q1⟩ := hq
  rcases q1 with ⟨a, xs, rfl, hq, q⟩ | ⟨a, xs, rfl, hq, q⟩ | ⟨z, rfl, q⟩
  · obtain rfl : v = Value.ref a := r1
    obtain ⟨its, _, p, _⟩ := I1.list hq
    exact wpAny_pyIter_list p.isList (pi_one (tk := s1.toks) I1 _ (turn_list a _) ⟨_, Heap.get?_push_size _ rfl, rfl, rfl⟩ q)
  · obtain rfl : v = Value.ref a := r1
    obtain ⟨its, _, p, _⟩ := I1.tuple hq
    have p' : s1.heap.IsTuple a its.toArray := p
    exact wpAny_pyIter_tuple p' (pi_one (tk := s1.toks) I1 _ (turn_tuple a _) ⟨_, Heap.get?_push_size _ rfl, rfl, rfl⟩ q)
  · obtain ⟨t, rfl⟩ := r1
    by_cases ha : z.cps.all (· < 128) = true
    · exact wpAny_pyIter_ascii ha (pi_one (tk := s1.toks) I1 _ (turn_str _ z t _ (.inl rfl)) ⟨_, Heap.get?_push_size _ rfl, rfl, rfl⟩ q)
    · have ha' : z.cps.all (· < 128) = false := by simpa using ha
      exact wpAny_pyIter_wide ha' (pi_one (tk := s1.toks) I1 _ (turn_str _ z t _ (.inr rfl)) ⟨_, Heap.get?_push_size _ rfl, rfl, rfl⟩ q)
theorem pi_itOf {tg l : Expr} {m : M O} (h : PE X l (RdV (gOf X hx) W m)) : PI X tg l (RdI (gOf X hx) W (itOf m)) := by
  have p := pi_val (tg := tg) (pe_dOf h)
  refine ⟨fun pins s σ H R I q => p.run pins s σ H R I ?_⟩
  obtain ⟨A, S, q⟩ := q
  refine ⟨A, S, (Go.split q).mono fun d B H1 st q1 v r => ?_⟩
  obtain ⟨ds, e, q2⟩ := Go.opt st.sim q1
  cases d with
  | tup xs =>
    cases e
    simp only [Rp] at r
    obtain ⟨a, ys, rfl, h1, h2⟩ := r
    exact .inr (.inl ⟨a, ys, rfl, st.sim.sqT h1, q2 _ (walk_tup (fun σ C H2 ex S => S.sqT (sqT_ext ex h1)) h2)⟩)
  | lst xs =>
    cases e
    simp only [Rp] at r
    obtain ⟨a, ys, rfl, h1, _, h2⟩ := r
    exact .inl ⟨a, ys, rfl, st.sim.sqL (.of h1), q2 _ (walk_lst (fun σ C H2 ex S => S.sqL (sqL_ext ex (.of h1))) h2)⟩
  | str z =>
    cases e
    simp only [Rp] at r
    obtain ⟨rfl, _⟩ := r
    exact .inr (.inr ⟨z, rfl, q2 _ walk_str⟩)
  | scr ns =>
    cases e
    simp only [Rp] at r
    obtain ⟨a, rfl, h1⟩ := r
    refine .inl ⟨a, ns.map V.int, rfl, st.sim.sqL (.of h1), q2 _ (walk_lst (fun σ C H2 ex S => S.sqL (sqL_ext ex (.of h1))) ?_)⟩
    have : ∀ ns : List Int, Rps (gOf X hx) B.F (ns.map D.int) (ns.map V.int) := fun ns => by
      induction ns with
      | nil => exact .nil
      | cons n r ih => exact .cons (by simp only [Rp]) ih
    exact this ns
  | _ => cases e
/-! ### targets -/
/-- the slots but T stay -/
structure Kp (T : List Nat) (σ σ' : L2.St) : Prop where
  len : σ'.length = σ.length
  at' : ∀ i, i ∉ T → σ'[i]? = σ[i]?
theorem Kp.refl {T : List Nat} {σ : L2.St} : Kp T σ σ := ⟨rfl, fun _ _ => rfl⟩
theorem Kp.trans {T : List Nat} {σ σ1 σ2 : L2.St} (a : Kp T σ σ1) (b : Kp T σ1 σ2) : Kp T σ σ2 := ⟨b.len.trans a.len, fun i h => (b.at' i h).trans (a.at' i h)⟩
theorem Kp.mono {T T' : List Nat} {σ σ' : L2.St} (a : Kp T σ σ') (h : ∀ i, i ∈ T → i ∈ T') : Kp T' σ σ' := ⟨a.len, fun i z => a.at' i fun q => z (h i q)⟩
/-- what an assignment leaves; T: the variables that may have changed -/
def GoS {α : Type} (g : G) (W : WX) (T : List Nat) (σ : L2.St) (A : Ab) (H : Hp) (r : R α) (k : α → Ab → L2.St → Hp → Prop) : Prop := match r with
  | .ok a env' => ∀ B σ' H', B.env = env' → Step g A H B σ' H' → Kp T σ σ' → k a B σ' H'
  | .ex x env' => ∀ B σ' H' d C, B.env = env' → Step g A H B σ' H' → Kp T σ σ' → XO x d B.F → g.mg x.c = some (.ref C) → W (.ref C) d σ' H'
  | .st => False
variable {α β : Type} {g : G} {T : List Nat} {σ : L2.St} {A : Ab} {H : Hp}
theorem GoS.mono {r : R α} {k k' : α → Ab → L2.St → Hp → Prop} (h : GoS g W T σ A H r k) (hk : ∀ a B σ' H', Step g A H B σ' H' → Kp T σ σ' → k a B σ' H' → k' a B σ' H') : GoS g W T σ A H r k' := by
  cases r with
  | ok a s => exact fun B σ' H' e st f => hk a B σ' H' st f (h B σ' H' e st f)
  | ex x s => exact h
  | st => exact h
/-- what follows, taken up from a state on the way; T1: what the first part may change -/
theorem GoS.into {T1 : List Nat} (hT : ∀ i, i ∈ T1 → i ∈ T) {m : M α} {f : α → M β} {k : β → Ab → L2.St → Hp → Prop} {σ1 : L2.St} {B : Ab} {H1 : Hp} (h : GoS g W T σ A H ((M.bind m f) B.env) k) (st : Step g A H B σ1 H1) (fr : Kp T σ σ1) :
    GoS g W T1 σ1 B H1 (m B.env) fun a C σ2 H2 => GoS g W T σ A H (f a C.env) k := by
  unfold M.bind at h
  cases e : m B.env with
  | ok a s =>
    rw [e] at h
    intro C σ2 H2 eC st2 f2
    subst eC
    exact h
  | ex x s =>
    rw [e] at h
    exact fun C σ2 H2 d Cl eC st2 f2 xo hm => h C σ2 H2 d Cl eC (st.trans st2) (fr.trans (f2.mono hT)) xo hm
  | st => rw [e] at h; exact h.elim
theorem GoS.go {r : R α} {k : α → Ab → L2.St → Hp → Prop} (h : GoS g W T σ A H r k) : Go g W σ A H r fun a B H' => k a B σ H' := by
  cases r with
  | ok a s => exact fun B H' e st => h B σ H' e st .refl
  | ex x s => exact fun B H' d C e st xo hm => h B σ H' d C e st .refl xo hm
  | st => exact h
theorem GoS.self {r : R α} {k : α → Ab → L2.St → Hp → Prop} (h : GoS g W T σ A H r k) (S : Sm g A σ H) : GoS g W T σ A H r k := h
/-- an expression first -/
theorem GoS.intoE {m : M α} {f : α → M β} {k : β → Ab → L2.St → Hp → Prop} {σ1 : L2.St} {B : Ab} {H1 : Hp} (h : GoS g W T σ A H ((M.bind m f) B.env) k) (st : Step g A H B σ1 H1) (fr : Kp T σ σ1) :
    Go g W σ1 B H1 (m B.env) fun a C H2 => GoS g W T σ A H (f a C.env) k :=
  (GoS.into (T1 := []) (fun _ z => absurd z List.not_mem_nil) h st fr).go
theorem GoS.splitE {m : M α} {f : α → M β} {k : β → Ab → L2.St → Hp → Prop} (S : Sm g A σ H) (h : GoS g W T σ A H ((M.bind m f) A.env) k) : Go g W σ A H (m A.env) fun a B H1 => GoS g W T σ A H (f a B.env) k :=
  GoS.intoE h (.refl S) .refl
theorem GoS.pure {a : α} {k : α → Ab → L2.St → Hp → Prop} {σ1 : L2.St} {B : Ab} {H1 : Hp} (h : GoS g W T σ A H (M.pure a B.env) k) (st : Step g A H B σ1 H1) (fr : Kp T σ σ1) : k a B σ1 H1 := h B σ1 H1 rfl st fr
theorem GoS.opt {o : Option α} {f : α → M β} {k : β → Ab → L2.St → Hp → Prop} {s : Env} (h : GoS g W T σ A H ((M.bind (Z.opt o) f) s) k) : ∃ a, o = some a ∧ GoS g W T σ A H (f a s) k := by
  cases o with
  | none => exact h.elim
  | some a => exact ⟨a, rfl, h⟩
theorem GoS.wide {T1 : List Nat} (hT : ∀ i, i ∈ T1 → i ∈ T) {r : R α} {k : α → Ab → L2.St → Hp → Prop} (h : GoS g W T σ A H r k) : GoS g W T1 σ A H r k := by
  cases r with
  | ok a s => exact fun B σ' H' e st f => h B σ' H' e st (f.mono hT)
  | ex x s => exact fun B σ' H' d C e st f xo hm => h B σ' H' d C e st (f.mono hT) xo hm
  | st => exact h
/-- a store: the value has come behind a run from A0, H0 on -/
def RdG (g : G) (W : WX) (T : List Nat) (gm : O → M Unit) : TG := fun v σ H Q => ∃ (A0 : Ab) (σ0 : L2.St) (H0 : Hp) (A : Ab) (o : O) (L : List Addr) (T' : List Nat),
  (∀ i, i ∈ T → i ∈ T') ∧ Step g A0 H0 A σ H ∧ Kp T' σ0 σ ∧ Ow g A.F H o v L ∧ Apt A0 H0 A L ∧ GoS g W T' σ0 A0 H0 (gm o A.env) fun _ B σ' H' => Q σ' H'
/-- stores of data, one after another -/
def RdGs (g : G) (W : WX) (T : List Nat) (gm : List D → M Unit) : TGs := fun vs σ H Q => ∃ (A0 : Ab) (σ0 : L2.St) (H0 : Hp) (A : Ab) (ds : List D) (T' : List Nat),
  (∀ i, i ∈ T → i ∈ T') ∧ Step g A0 H0 A σ H ∧ Kp T' σ0 σ ∧ Rps g A.F ds vs ∧ GoS g W T' σ0 A0 H0 (gm ds A.env) fun _ B σ' H' => Q σ' H'
theorem PG.weak {X : Cx} {e : Expr} {t t' : TG} (h : PG X e t) (m : ∀ v σ H Q, t' v σ H Q → t v σ H Q) : PG X e t' := ⟨fun pins s σ H v u Q I r q => h.run pins s σ H v u Q I r (m v σ H Q q)⟩
theorem PGs.weak {X : Cx} {e : List Expr} {t t' : TGs} (h : PGs X e t) (m : ∀ v σ H Q, t' v σ H Q → t v σ H Q) : PGs X e t' := ⟨fun pins s σ H v u Q I r q => h.run pins s σ H v u Q I r (m v σ H Q q)⟩
theorem pg_never {X : Cx} {e : Expr} {T : List Nat} : PG X e (RdG g W T fun _ => M.stuck) := ⟨fun pins s σ H v u Q I r ⟨A0, σ0, H0, A, o, L, T', _, _, _, _, _, q⟩ => q.elim⟩
/-- a name takes a value -/
theorem set_step {A0 : Ab} {H0 : Hp} {i : Nat} {o : O} {v : V} {L : List Addr} (st : Step g A0 H0 A σ H) (hi : i < A.env.length) (ow : Ow g A.F H o v L) (ap : Apt A0 H0 A L) :
    Step g A0 H0 ⟨A.F, A.env.set i (some o), fun j => if j = i then L else A.fp j⟩ (σ.set i (some v)) H :=
  ⟨st.fr, st.sim.set hi ow fun a ha j _ hj => ap.1 a ha ⟨j, hj⟩, fun a ha => (wf_upd ha).elim (st.sb a) (ap.2 a)⟩
theorem kp_set {i : Nat} {x : Option V} {T : List Nat} (h : i ∈ T) : Kp T σ (σ.set i x) := ⟨List.length_set, fun j hj => List.getElem?_set_ne fun e => hj (by rw [← e]; exact h)⟩
theorem pg_varG {X : Cx} {hx : HX} {W : WX} {i : Nat} {x : Str} {p : Pos} (hN : X.N.Nodup) (hi : X.N[i]? = some x) (hl : Loc X.env.scope x) (hf : X.fn x = true ∨ X.env.scope.names.lookup x = some .local) : PG X (.Name x p) (RdG (gOf X hx) W [i] (varG i)) := by
  refine PG.weak (pg_name hN hi hl hf) fun v σ H Q ⟨A0, σ0, H0, A, o, L, T', hT, st, kp, ow, ap, q⟩ => ?_
  have q : GoS (gOf X hx) W T' σ0 A0 H0 (if i < A.env.length then R.ok () (A.env.set i (some o)) else .st) fun _ B σ' H' => Q σ' H' := q
  by_cases hl : i < A.env.length
  · rw [if_pos hl] at q
    exact q _ _ H rfl (set_step st hl ow ap) (kp.trans (kp_set (hT i List.mem_cons_self)))
  · rw [if_neg hl] at q
    exact q.elim
end
end Z
end

section
set_option Elab.async false
set_option linter.all false
set_option maxRecDepth 100000
set_option maxHeartbeats 1000000
/-! ZBlk: a comprehension's block. -/
namespace Z
open PySem L2

/-! ### own names forgotten, and taken back -/
def wipeF : List Nat → (Nat → List Addr) → Nat → List Addr
  | [], fp => fp
  | i :: r, fp => fun j => if j = i then [] else wipeF r fp j
theorem wipeF_in : ∀ {own : List Nat} {fp : Nat → List Addr} {j : Nat}, j ∈ own → wipeF own fp j = []
  | i :: r, fp, j, h => by
    show (if j = i then [] else wipeF r fp j) = []
    by_cases e : j = i
    · rw [if_pos e]
    · rw [if_neg e]
      exact wipeF_in ((List.mem_cons.mp h).resolve_left e)
theorem wipeF_out : ∀ {own : List Nat} {fp : Nat → List Addr} {j : Nat}, j ∉ own → wipeF own fp j = fp j
  | [], _, _, _ => rfl
  | i :: r, fp, j, h => by
    show (if j = i then [] else wipeF r fp j) = fp j
    rw [if_neg fun e => h (by rw [e]; exact List.mem_cons_self)]
    exact wipeF_out fun e => h (List.mem_cons_of_mem _ e)
theorem wf_wipe {own : List Nat} {fp : Nat → List Addr} {a : Addr} (h : wf (wipeF own fp) a) : wf fp a := by
  obtain ⟨j, hj⟩ := h
  by_cases e : j ∈ own
  · rw [wipeF_in e] at hj; simp at hj
  · rw [wipeF_out e] at hj; exact ⟨j, hj⟩
theorem wipeE_len : ∀ {own : List Nat} {s : Env}, (wipeE own s).length = s.length
  | [], _ => rfl
  | i :: r, s => by
    show ((wipeE r s).set i none).length = _
    rw [List.length_set, wipeE_len]
theorem wipeE_out : ∀ {own : List Nat} {s : Env} {j : Nat}, j ∉ own → (wipeE own s)[j]? = s[j]?
  | [], _, _, _ => rfl
  | i :: r, s, j, h => by
    show ((wipeE r s).set i none)[j]? = _
    rw [List.getElem?_set_ne fun e => h (by rw [e]; exact List.mem_cons_self)]
    exact wipeE_out fun e => h (List.mem_cons_of_mem _ e)
theorem wipeE_in : ∀ {own : List Nat} {s : Env} {j : Nat}, j ∈ own → ∀ o, (wipeE own s)[j]? ≠ some (some o)
  | i :: r, s, j, h, o, e => by
    have e' : ((wipeE r s).set i none)[j]? = some (some o) := e
    by_cases q : i = j
    · subst q
      by_cases l : i < (wipeE r s).length
      · rw [List.getElem?_set_self l] at e'; cases e'
      · rw [List.getElem?_eq_none (by simpa using l)] at e'; cases e'
    · rw [List.getElem?_set_ne q] at e'
      exact wipeE_in ((List.mem_cons.mp h).resolve_left fun z => q z.symm) o e'
theorem wipeS_out : ∀ {own : List Nat} {σ : L2.St} {j : Nat}, j ∉ own → (L2.wipe σ own)[j]? = σ[j]?
  | [], _, _, _ => rfl
  | i :: r, σ, j, h => by
    show ((L2.wipe σ r).set i none)[j]? = _
    rw [List.getElem?_set_ne fun e => h (by rw [e]; exact List.mem_cons_self)]
    exact wipeS_out fun e => h (List.mem_cons_of_mem _ e)
theorem wipeS_in : ∀ {own : List Nat} {σ : L2.St} {j : Nat}, j ∈ own → (L2.wipe σ own)[j]? = if j < σ.length then some none else none
  | i :: r, σ, j, h => by
    show ((L2.wipe σ r).set i none)[j]? = _
    by_cases q : i = j
    · subst q
      by_cases l : i < σ.length
      · rw [if_pos l, List.getElem?_set_self (by rw [L2.wipe_length]; exact l)]
      · rw [if_neg l, List.getElem?_eq_none (by rw [List.length_set, L2.wipe_length]; omega)]
    · rw [List.getElem?_set_ne q]
      exact wipeS_in ((List.mem_cons.mp h).resolve_left fun z => q z.symm)
theorem wipe_same {own : List Nat} {σ σ' : L2.St} (h : Kp own σ σ') : L2.wipe σ' own = L2.wipe σ own := by
  apply List.ext_getElem?
  intro j
  by_cases e : j ∈ own
  · rw [wipeS_in e, wipeS_in e, h.len]
  · rw [wipeS_out e, wipeS_out e, h.at' j e]
theorem backE_len : ∀ {own : List Nat} {s0 s : Env}, (backE own s0 s).length = s.length
  | [], _, _ => rfl
  | i :: r, s0, s => by
    show ((backE r s0 s).set i _).length = _
    rw [List.length_set, backE_len]
theorem backE_out : ∀ {own : List Nat} {s0 s : Env} {j : Nat}, j ∉ own → (backE own s0 s)[j]? = s[j]?
  | [], _, _, _, _ => rfl
  | i :: r, s0, s, j, h => by
    show ((backE r s0 s).set i _)[j]? = _
    rw [List.getElem?_set_ne fun e => h (by rw [e]; exact List.mem_cons_self)]
    exact backE_out fun e => h (List.mem_cons_of_mem _ e)
theorem backE_in : ∀ {own : List Nat} {s0 s : Env} {j : Nat} {o : O}, j ∈ own → (backE own s0 s)[j]? = some (some o) → s0[j]? = some (some o)
  | i :: r, s0, s, j, o, h, e => by
    have e' : ((backE r s0 s).set i (s0[i]?).join)[j]? = some (some o) := e
    by_cases q : i = j
    · subst q
      by_cases l : i < (backE r s0 s).length
      · rw [List.getElem?_set_self l] at e'
        have e2 : (s0[i]?).join = some o := Option.some.inj e'
        cases z : s0[i]? with
        | none => rw [z] at e2; cases e2
        | some u => rw [z] at e2; simpa using e2
      · rw [List.getElem?_eq_none (by simpa using l)] at e'; cases e'
    · rw [List.getElem?_set_ne q] at e'
      exact backE_in ((List.mem_cons.mp h).resolve_left fun z => q z.symm) e'
theorem backE_in' : ∀ {own : List Nat} {s0 s : Env} {j : Nat} {o : O}, j ∈ own → s0.length = s.length → s0[j]? = some (some o) → (backE own s0 s)[j]? = some (some o)
  | i :: r, s0, s, j, o, h, hl, e => by
    show ((backE r s0 s).set i (s0[i]?).join)[j]? = some (some o)
    by_cases q : i = j
    · subst q
      have l : i < s.length := by rw [← hl]; exact (List.getElem?_eq_some_iff.mp e).1
      rw [List.getElem?_set_self (by rw [backE_len]; exact l), e] <;> rfl
    · rw [List.getElem?_set_ne q]
      exact backE_in' ((List.mem_cons.mp h).resolve_left fun z => q z.symm) hl e
abbrev wAb (own : List Nat) (A : Ab) : Ab := ⟨A.F, wipeE own A.env, wipeF own A.fp⟩
def backF (own : List Nat) (f0 f : Nat → List Addr) : Nat → List Addr := fun j => if j ∈ own then f0 j else f j
abbrev bAb (own : List Nat) (A B : Ab) : Ab := ⟨B.F, backE own A.env B.env, backF own A.fp B.fp⟩

section
variable {g : G} {W : WX} {σ σ' : L2.St} {A B : Ab} {H H' : Hp} {own : List Nat}
theorem Sim.wipe : ∀ {own : List Nat} {F : Hp} {env : Env} {fp : Nat → List Addr}, Sim g F env σ H fp → Sim g F (wipeE own env) (L2.wipe σ own) H (wipeF own fp)
  | [], _, _, _, S => S
  | i :: r, _, _, _, S => (Sim.wipe (own := r) S).drop i none
/-- from a block's end: the names around it are again what they were -/
theorem Step.back (S : Sm g A σ H) (st : Step g (wAb own A) H B σ' H') (fr : Kp own σ σ') : Step g A H (bAb own A B) σ H' := by
  have hl : A.env.length = B.env.length := by
    have h1 := S.len
    have h2 := st.sim.len
    have h3 := fr.len
    omega
  have back : ∀ j, j ∈ own → ∀ a, a ∈ A.fp j → ¬ wf (wipeF own A.fp) a := fun j hj a ha ⟨k, hk⟩ => by
    by_cases e : k ∈ own
    · rw [wipeF_in e] at hk; simp at hk
    · rw [wipeF_out e] at hk
      exact e (by rw [← S.dis j k a ha hk]; exact hj)
  have out : ∀ j, j ∈ own → ∀ k, k ∉ own → ∀ a, a ∈ A.fp j → a ∉ B.fp k := fun j hj k hk a ha hb => by
    rcases st.sb a ⟨k, hb⟩ with z | z
    · exact back j hj a ha z
    · have ho : ∃ o, A.env[j]? = some (some o) := by
        by_cases q : ∃ o, A.env[j]? = some (some o)
        · exact q
        · rw [S.emp j fun o e => q ⟨o, e⟩] at ha; simp at ha
      obtain ⟨o, ho⟩ := ho
      obtain ⟨v, _, h2⟩ := S.slot j o ho
      exact (h2.at ha).2 z
  refine ⟨st.fr.mono fun x hx => .inl (wf_wipe hx), ⟨st.sim.sub, st.sim.pl, st.sim.ls, st.sim.scu, ?_, fun j o e => ?_, fun j e => ?_, fun j k a h1 h2 => ?_⟩, fun a ha => ?_⟩
  · show (backE own A.env B.env).length = σ.length
    rw [backE_len, ← hl]; exact S.len
  · have e' : (backE own A.env B.env)[j]? = some (some o) := e
    by_cases hj : j ∈ own
    · obtain ⟨v, h1, h2⟩ := S.slot j o (backE_in hj e')
      refine ⟨v, h1, ?_⟩
      show Ow g B.F H' o v (backF own A.fp B.fp j)
      unfold backF
      rw [if_pos hj]
      exact h2.fr st.fr (back j hj)
    · rw [backE_out hj] at e'
      obtain ⟨v, h1, h2⟩ := st.sim.slot j o e'
      refine ⟨v, by rw [← fr.at' j hj]; exact h1, ?_⟩
      show Ow g B.F H' o v (backF own A.fp B.fp j)
      unfold backF
      rw [if_neg hj]; exact h2
  · show backF own A.fp B.fp j = []
    unfold backF
    by_cases hj : j ∈ own
    · rw [if_pos hj]
      exact S.emp j fun o q => e o (backE_in' hj hl q)
    · rw [if_neg hj]
      refine st.sim.emp j fun o q => e o ?_
      show (backE own A.env B.env)[j]? = _
      rw [backE_out hj]; exact q
  · have h1 : a ∈ backF own A.fp B.fp j := h1
    have h2 : a ∈ backF own A.fp B.fp k := h2
    unfold backF at h1 h2
    by_cases hj : j ∈ own <;> by_cases hk : k ∈ own
    · rw [if_pos hj] at h1; rw [if_pos hk] at h2; exact S.dis j k a h1 h2
    · rw [if_pos hj] at h1; rw [if_neg hk] at h2; exact absurd h2 (out j hj k hk a h1)
    · rw [if_neg hj] at h1; rw [if_pos hk] at h2; exact absurd h1 (out k hk j hj a h2)
    · rw [if_neg hj] at h1; rw [if_neg hk] at h2; exact st.sim.dis j k a h1 h2
  · obtain ⟨j, hj⟩ := ha
    have hj : a ∈ backF own A.fp B.fp j := hj
    unfold backF at hj
    by_cases q : j ∈ own
    · rw [if_pos q] at hj; exact .inl ⟨j, hj⟩
    · rw [if_neg q] at hj
      exact (st.sb a ⟨j, hj⟩).imp wf_wipe id
theorem kp_wipe : Kp own σ (L2.wipe σ own) := ⟨L2.wipe_length _ _, fun i h => wipeS_out h⟩
theorem Step.wipe {σ1 : L2.St} (st : Step g A H B σ1 H') : Step g A H (wAb own B) (L2.wipe σ1 own) H' :=
  ⟨st.fr, st.sim.wipe, fun a ha => st.sb a (wf_wipe ha)⟩
/-- into a block -/
theorem blk_in {α : Type} {m : M α} {r : R α} {k : α → Ab → Hp → Prop} (S : Sm g A σ H) (h : Go g W σ A H (blkM own m A.env) k) (e : m A.env = r) :
    GoS g (fun _ _ _ _ => False) own (L2.wipe σ own) (wAb own A) H r fun a B _ H' => k a (bAb own A B) H' ∧ Step g A H (bAb own A B) σ H' := by
  unfold blkM at h
  rw [e] at h
  cases r with
  | ok a s =>
    intro B σ' H' eB st fr
    have st2 := Step.back S st (kp_wipe.trans fr)
    exact ⟨h (bAb own A B) H' (by rw [← eB]) st2, st2⟩
  | ex x s => exact h.elim
  | st => exact h
/-- an object that nobody has is changed -/
theorem Sim.poke {F : Hp} {env : Env} {fp : Nat → List Addr} (S : Sim g F env σ H fp) {p : Addr} {o : HO} (h1 : F p = none) (h2 : ¬ wf fp p) (h3 : H p ≠ none) : Sim g F env σ (upd H p o) fp := by
  have f : Fr (fun a => a = p) F H F (upd H p o) := ⟨Ext.refl _, fun a u e n => by rw [upd_ne n]; exact e, fun a e => .inl e, fun a e => by
    by_cases q : a = p
    · rw [q, upd_same]; simp
    · rw [upd_ne q]; exact e⟩
  refine ⟨fun a u e => ?_, S.pl, fun a xs e ns => ?_, fun a e => f.used a (S.scu a e), S.len, fun i u e => ?_, S.emp, S.dis⟩
  · have ne : a ≠ p := fun z => by rw [z, h1] at e; cases e
    rcases S.sub a u e with z | ⟨w, z⟩
    · exact .inl (by rw [upd_ne ne]; exact z)
    · exact .inr ⟨w, by rw [upd_ne ne]; exact z⟩
  · have ne : a ≠ p := fun z => by rw [z, h1] at e; cases e
    rw [upd_ne ne]; exact S.ls a xs e ns
  · obtain ⟨v, e1, e2⟩ := S.slot i u e
    exact ⟨v, e1, e2.fr f fun a ha z => h2 ⟨i, by rw [← z]; exact ha⟩⟩
theorem Step.poke (st : Step g A H B σ H') {p : Addr} {o : HO} (h0 : H p = none) (h1 : B.F p = none) (h2 : ¬ wf B.fp p) (h3 : H' p ≠ none) : Step g A H B σ (upd H' p o) := by
  refine ⟨⟨st.fr.ext, fun a u e n => ?_, st.fr.dom, fun a e => ?_⟩, st.sim.poke h1 h2 h3, st.sb⟩
  · have ne : a ≠ p := fun z => by rw [z, h0] at e; cases e
    rw [upd_ne ne]; exact st.fr.keep a u e n
  · by_cases q : a = p
    · rw [q, upd_same]; simp
    · rw [upd_ne q]; exact st.fr.used a e
theorem Step.poke' (st : Step g A H B σ H') {p : Addr} {o : HO} (h0 : H' p = none) (h1 : B.F p = none) (h2 : ¬ wf B.fp p) : Step g A H B σ (upd H' p o) := by
  have st2 := newH_step st.sim (o := o) h0
  exact ⟨(st.trans st2).fr, (st.trans st2).sim, (st.trans st2).sb⟩
theorem wipe_wipe {σ : L2.St} : L2.wipe (L2.wipe σ own) own = L2.wipe σ own := wipe_same kp_wipe
end
/-- one turn's rest -/
def lcT (own : List Nat) (el tg : Den) (ifs : List Den) : List D → List D → M O
  | [], acc => M.pure (.lst acc)
  | x :: xs, acc => (tg.g (.frz x)).bind fun _ => (ifsM ifs).bind fun b => if b then el.d.bind fun d => lcM own el tg ifs xs (acc ++ [d]) else lcM own el tg ifs xs acc
theorem lcM_T {own : List Nat} {el tg : Den} {ifs : List Den} {xs acc : List D} {s : Env} : lcM own el tg ifs xs acc s = lcT own el tg ifs xs acc (wipeE own s) := by
  cases xs <;> rfl
section
variable {X : Cx} {hx : HX} {W : WX} {C : Cxt}
abbrev WF : WX := fun _ _ _ _ => False
/-- a fresh object that a block fills -/
structure Pend (g : G) (B : Ab) (H : Hp) (D : Addr) (xs : List V) : Prop where
  here : H D = some (.lst xs)
  noF : B.F D = none
  noW : ¬ wf B.fp D
  noS : ¬ g.scr D
theorem Pend.step {g : G} {B B' : Ab} {H H' : Hp} {D : Addr} {xs : List V} {σ : L2.St} (p : Pend g B H D xs) (st : Step g B H B' σ H') : Pend g B' H' D xs := by
  refine ⟨st.fr.keep D _ p.here p.noW, ?_, fun z => ?_, p.noS⟩
  · cases q : B'.F D with
    | none => rfl
    | some u =>
      rcases st.fr.dom D (by rw [q]; simp) with z | z | z
      · exact absurd p.noF z
      · rw [p.here] at z; cases z
      · exact absurd z p.noW
  · rcases st.sb D z with z | z
    · exact p.noW z
    · rw [p.here] at z; cases z
/-- ahead of turn i -/
def LcI (g : G) (own : List Nat) (el tg : Den) (ifs : List Den) (ds : List D) (σ : L2.St) (B : Ab) (H1 : Hp) (Dl : Addr) (kf : O → Ab → L2.St → Hp → Prop) (i m : Nat) (Hc : Hp) : Prop :=
  m = ds.length - i ∧ i ≤ ds.length ∧ ∃ (Bc : Ab) (acc : List D) (xs : List V), acc.length ≤ i ∧ Rps g Bc.F acc xs ∧ Pend g Bc Hc Dl xs ∧ Step g (wAb own B) H1 Bc (L2.wipe σ own) Hc ∧
    GoS g WF own (L2.wipe σ own) (wAb own B) H1 (lcT own el tg ifs (ds.drop i) acc Bc.env) kf
theorem tLc_of {el tg it : E} {ifs : List E} {sc : Scope} {p : Pos} {ow : List (Str × Nat)} {σ : L2.St} {H : Hp} {Q : VK} (h : RdV (gOf X hx) W (den C (.lc el tg it ifs (ow.map (·.2)) sc p)).v σ H Q) :
    tLc (RdI (gOf X hx) W (den C it).it) (RdG (gOf X hx) WF (ow.map (·.2)) (den C tg).g) (RdT (gOf X hx) WF (ifsM (dens C ifs))) (RdD (gOf X hx) WF (dOf (den C el).v)) (ow.map (·.2)) σ H Q := by
  obtain ⟨A, S, q⟩ := h
  refine ⟨A, S, (Go.split q).mono fun ds B H1 st q1 J wk Dl hD => ?_⟩
  have q1 : Go (gOf X hx) W σ B H1 ((few ds (blkM (ow.map (·.2)) (lcM (ow.map (·.2)) (den C el) (den C tg) (dens C ifs) ds []))) B.env) _ := q1
  unfold few at q1
  by_cases hl : ds.length ≤ LIM
  case neg => rw [if_neg (by simpa using hl)] at q1; exact q1.elim
  rw [if_pos (decide_eq_true hl)] at q1
  have q2 := blk_in st.sim q1 lcM_T
  have nW := noW st.sim hD
  have nF := noF st.sim hD
  have nS := noScr st.sim hD
  have nW' : ¬ wf (wipeF (ow.map (·.2)) B.fp) Dl := fun z => nW (wf_wipe z)
  have ls := lim_size
  -- the turns
  refine ⟨LcI (gOf X hx) (ow.map (·.2)) (den C el) (den C tg) (dens C ifs) ds σ B H1 Dl fun a B2 _ H' => ∀ v L, Ow (gOf X hx) B2.F H' a v L → (∀ a ∈ L, ¬ wf (bAb (ow.map (·.2)) B B2).fp a) → (∀ a ∈ L, wf A.fp a ∨ H a = none) → Q v H', ⟨ds.length, by omega, Nat.zero_le _, ?_⟩, ?_⟩
  · refine ⟨wAb (ow.map (·.2)) B, [], [], Nat.zero_le _, .nil, ⟨upd_same, nF, nW', nS⟩, Step.poke' (A := wAb (ow.map (·.2)) B) (B := wAb (ow.map (·.2)) B) (.refl st.sim.wipe) hD nF nW', ?_⟩
    exact q2.mono fun a B2 σ2 H' st2 _ q3 v L ow2 ap1 ap2 => q3.1 v L ow2 ⟨ap1, ap2⟩
  rintro i m Hc ⟨rfl, hi', Bc, acc, xs, ha, hr, pd, st1, q3⟩
  obtain ⟨w1, w2⟩ := wk (L2.wipe σ (ow.map (·.2))) Bc Hc st1.fr.ext st1.sim
  by_cases hlt : i < ds.length
  · obtain ⟨hgo, hy⟩ := w2 i ds[i] (List.getElem?_eq_getElem hlt)
    refine .inr ⟨hgo, _, fun H' hN => ⟨ds.length - (i + 1), by omega, hN⟩, ?_⟩
    intro x H' hyld
    obtain ⟨C0, e0, st2, rx⟩ := hy x H' hyld
    rw [List.drop_eq_getElem_cons hlt] at q3
    rw [← e0] at q3
    have q4 := GoS.into (T1 := ow.map (·.2)) (fun _ z => z) q3 (st1.trans st2) .refl
    refine ⟨C0, _, H', C0, .frz ds[i], [], ow.map (·.2), fun _ z => z, .refl st2.sim, .refl, ⟨rx, rfl⟩, ⟨fun _ z => absurd z List.not_mem_nil, fun _ z => absurd z List.not_mem_nil⟩, q4.mono fun _ B2 σ2 H2 st3 kp3 q5 => ⟨by rw [wipe_same kp3, wipe_wipe], B2, st3.sim, (GoS.intoE q5 ((st1.trans st2).trans st3) (by exact kp3)).mono fun b B3 H3 st4 q6 => ?_⟩⟩
    have stA := ((st1.trans st2).trans st3).trans st4
    have pdA := ((pd.step st2).step st3).step st4
    cases b with
    | false =>
      dsimp only
      rw [if_neg (by decide)]
      have q7 : GoS (gOf X hx) WF (ow.map (·.2)) (L2.wipe σ (ow.map (·.2))) (wAb (ow.map (·.2)) B) H1 (lcM (ow.map (·.2)) (den C el) (den C tg) (dens C ifs) (ds.drop (i + 1)) acc B3.env) _ := q6
      rw [lcM_T] at q7
      have stW := stA.wipe (own := ow.map (·.2))
      rw [wipe_same kp3, wipe_wipe] at stW
      exact ⟨rfl, hlt, wAb (ow.map (·.2)) B3, acc, xs, Nat.le_succ_of_le ha, (hr.ext st2.fr.ext |>.ext st3.fr.ext |>.ext st4.fr.ext), ⟨pdA.here, pdA.noF, fun z => pdA.noW (wf_wipe z), pdA.noS⟩, stW, q7⟩
    | true =>
      dsimp only
      rw [if_pos rfl]
      have q7 : GoS (gOf X hx) WF (ow.map (·.2)) (L2.wipe σ (ow.map (·.2))) (wAb (ow.map (·.2)) B) H1 (((den C el).d.bind fun d => lcM (ow.map (·.2)) (den C el) (den C tg) (dens C ifs) (ds.drop (i + 1)) (acc ++ [d])) B3.env) _ := q6
      refine ⟨B3, st4.sim, (GoS.intoE q7 stA kp3).mono fun dd B4 H4 st5 q8 y ry => ?_⟩
      have stB := stA.trans st5
      have pdB := pdA.step st5
      have hx := hr.length
      refine ⟨xs, pdB.here, by omega, rfl, hlt, wAb (ow.map (·.2)) B4, acc ++ [dd], xs ++ [y], by simp; omega, ?_, ⟨upd_same, pdB.noF, fun z => pdB.noW (wf_wipe z), pdB.noS⟩, ?_, ?_⟩
      · exact (((hr.ext st2.fr.ext).ext st3.fr.ext).ext st4.fr.ext |>.ext st5.fr.ext).append (.cons ry .nil)
      · have stW := stB.wipe (own := ow.map (·.2))
        rw [wipe_same kp3, wipe_wipe] at stW
        exact stW.poke hD pdB.noF (fun z => pdB.noW (wf_wipe z)) (by rw [pdB.here]; simp)
      · rw [lcM_T] at q8
        exact q8
  · have e : i = ds.length := by omega
    subst e
    refine .inl ⟨w1, ?_⟩
    rw [List.drop_length] at q3
    have q4 := GoS.pure q3 st1 .refl
    refine q4 (.ref Dl) [Dl] ⟨Dl, xs, rfl, rfl, pd.here, pd.noF, pd.noS, hr⟩ (fun a ha z => ?_) fun a ha => ?_
    · have ea : a = Dl := by simpa using ha
      subst ea
      obtain ⟨j, hj⟩ := z
      have hj : a ∈ backF (ow.map (·.2)) B.fp Bc.fp j := hj
      unfold backF at hj
      by_cases q : j ∈ ow.map (·.2)
      · rw [if_pos q] at hj; exact nW ⟨j, hj⟩
      · rw [if_neg q] at hj; exact pd.noW ⟨j, hj⟩
    · have ea : a = Dl := by simpa using ha
      subst ea
      exact .inr (st.fr.none_back hD)
theorem pe_lcZ {el tg it : E} {ifs : List E} {sc : Scope} {p : Pos} {ow : List (Str × Nat)} (hc : X.calm = true) (hN : X.N.Nodup) (ok : BlkOk X.N X.env.scope sc ow)
    (hi : PI X (toX tg) (toX it) (RdI (gOf X hx) W (den C it).it))
    (hg : ∀ (s : Shared) (H : Hp) (Cl : Addr) (cl : List (Str × Addr)) (fp : List Addr), PG (X.blk s H sc (compEnvC sc cl Cl X.env) fp) (toX tg) (RdG (gOf X hx) WF (ow.map (·.2)) (den C tg).g))
    (ht : ∀ (s : Shared) (H : Hp) (Cl : Addr) (cl : List (Str × Addr)) (fp : List Addr), PTs (X.blk s H sc (compEnvC sc cl Cl X.env) fp) (toXs ifs) (RdT (gOf X hx) WF (ifsM (dens C ifs))))
    (he : ∀ (s : Shared) (H : Hp) (Cl : Addr) (cl : List (Str × Addr)) (fp : List Addr), PE (X.blk s H sc (compEnvC sc cl Cl X.env) fp) (toX el) (RdV (gOf X hx) WF (den C el).v)) :
    PE X (toX (.lc el tg it ifs (ow.map (·.2)) sc p)) (RdV (gOf X hx) W (den C (.lc el tg it ifs (ow.map (·.2)) sc p)).v) := by
  have he' : ∀ (s : Shared) (H : Hp) (Cl : Addr) (cl : List (Str × Addr)) (fp : List Addr), PE (X.blk s H sc (compEnvC sc cl Cl X.env) fp) (toX el) (RdD (gOf X hx) WF (dOf (den C el).v)) := fun s H Cl cl fp => pe_dOf (he s H Cl cl fp)
  exact PE.weak (pe_lc hc hN hi ok hg ht he' (no_set _)) fun σ H Q h => tLc_of h
theorem ps_setLcZ {el tg it : E} {ifs : List E} {sc : Scope} {p py sp : Pos} {ow : List (Str × Nat)} {i : Nat} {y : Str} (hc : X.calm = true) (hN : X.N.Nodup) (ok : BlkOk X.N X.env.scope sc ow) (hy : X.N[i]? = some y) (hyl : X.env.scope.names.lookup y = some .local)
    (hsw : swapsWith (toX (.lc el tg it ifs (ow.map (·.2)) sc p)) (some (.Name y py)) sp.line X.env = pure true)
    (hi : PI X (toX tg) (toX it) (RdI (gOf X hx) W (den C it).it))
    (hg : ∀ (s : Shared) (H : Hp) (Cl : Addr) (cl : List (Str × Addr)) (fp : List Addr), PG (X.blk s H sc (compEnvC sc cl Cl X.env) fp) (toX tg) (RdG (gOf X hx) WF (ow.map (·.2)) (den C tg).g))
    (ht : ∀ (s : Shared) (H : Hp) (Cl : Addr) (cl : List (Str × Addr)) (fp : List Addr), PTs (X.blk s H sc (compEnvC sc cl Cl X.env) fp) (toXs ifs) (RdT (gOf X hx) WF (ifsM (dens C ifs))))
    (he : ∀ (s : Shared) (H : Hp) (Cl : Addr) (cl : List (Str × Addr)) (fp : List Addr), PE (X.blk s H sc (compEnvC sc cl Cl X.env) fp) (toX el) (RdV (gOf X hx) WF (den C el).v)) :
    PS X (.Assign [.Name y py] (toX (.lc el tg it ifs (ow.map (·.2)) sc p)) sp) (tAsg (RdV (gOf X hx) W (den C (.lc el tg it ifs (ow.map (·.2)) sc p)).v) (gName i)) := by
  have he' : ∀ (s : Shared) (H : Hp) (Cl : Addr) (cl : List (Str × Addr)) (fp : List Addr), PE (X.blk s H sc (compEnvC sc cl Cl X.env) fp) (toX el) (RdD (gOf X hx) WF (dOf (den C el).v)) := fun s H Cl cl fp => pe_dOf (he s H Cl cl fp)
  exact PS.weak (ps_setLc hc hN hy hyl hsw hi ok hg ht he' (no_set _)) fun D σ H h => tLc_of h
end
end Z
end

section
set_option Elab.async false
set_option linter.all false
set_option maxRecDepth 100000
set_option maxHeartbeats 1000000
/-! ZDok: every kind of expression does what its reading tells. -/
namespace Z
open PySem L2
def isIfe : E → Bool
  | .ife _ _ _ _ => true
  | _ => false
def isWalkE : E → Bool
  | .bi x _ _ _ => isWalk x
  | .meth _ m _ _ _ => m == "items" || m == "values"
  | _ => false
mutual
/-- the variables that a target stores to -/
def tset : E → List Nat
  | .var i _ _ => [i]
  | .tup es _ _ => tsets es
  | _ => []
def tsets : List E → List Nat
  | [] => []
  | e :: r => tset e ++ tsets r
end
structure DOk (X : Cx) (hx : HX) (W : WX) (C : Cxt) (e : E) : Prop where
  v : PE X (toX e) (RdV (gOf X hx) W (den C e).v)
  a : PE X (toX e) (RdA (gOf X hx) W (den C e).a)
  t : isIfe e = false → PT X (toX e) (RdT (gOf X hx) W (den C e).t)
  i : ∀ tg, PI X tg (toX e) (RdI (gOf X hx) W (den C e).it)
  w : isWalkE e = false → PE X (toX e) (RdA (gOf X hx) W (den C e).w)
  n : ∀ i, (den C e).var = some i → PE X (toX e) (tVar i)
section
variable {α β γ : Type}
theorem bind_assoc {m : M α} {f : α → M β} {k : β → M γ} : M.bind (M.bind m f) k = M.bind m fun a => M.bind (f a) k := by
  funext s
  unfold M.bind
  cases m s <;> rfl
theorem pure_bind {a : α} {f : α → M β} : M.bind (M.pure a) f = f a := rfl
theorem two_bind {x y : M Z.A} {k : D → D → M α} {f : α → M β} : M.bind (two x y k) f = two x y fun u v => M.bind (k u v) f := by
  unfold two
  rw [bind_assoc]
  congr 1
  funext a
  rw [bind_assoc]
  congr 1
  funext b s
  unfold M.bind
  dsimp only
  cases a.get s <;> cases b.get s <;> rfl
variable {X : Cx} {hx : HX} {W : WX} {C : Cxt} {g : G} {σ : L2.St} {A : Ab} {H : Hp} {e : E}
theorem pe_neverV : PE X (toX e) (RdV g W M.stuck) := ⟨fun pins s σ H Q I ⟨A, _, q⟩ => q.elim⟩
theorem pe_neverA : PE X (toX e) (RdA g W M.stuck) := ⟨fun pins s σ H Q I ⟨A, _, q⟩ => q.elim⟩
theorem pe_neverA' : PE X (toX e) (RdA g W (aOf M.stuck)) := ⟨fun pins s σ H Q I ⟨A, _, q⟩ => q.elim⟩
theorem pt_neverT : PT X (toX e) (RdT g W (tOf (aOf M.stuck))) := ⟨fun pins s σ H Q I ⟨A, _, q⟩ => q.elim⟩
theorem dok_V {m : M O} (h : den C e = mkV m) (ht : isTst e = false ∨ isIfe e = true) (p : PE X (toX e) (RdV (gOf X hx) W m)) : DOk X hx W C e := by
  refine ⟨?_, ?_, fun hi => ?_, fun tg => ?_, fun _ => ?_, fun i z => by rw [h] at z; cases z⟩ <;> rw [h]
  · exact p
  · exact pe_aOf p
  · exact pt_tOf (ht.resolve_right (by rw [hi]; decide)) (pe_aOf p)
  · exact pi_itOf p
  · exact pe_aOf p
theorem dok_T {m : M O} {t : M Bool} (h : den C e = mkT m t) (p : PE X (toX e) (RdV (gOf X hx) W m)) (q : PT X (toX e) (RdT (gOf X hx) W t)) : DOk X hx W C e := by
  refine ⟨?_, ?_, fun _ => ?_, fun tg => ?_, fun _ => ?_, fun i z => by rw [h] at z; cases z⟩ <;> rw [h]
  · exact p
  · exact pe_aOf p
  · exact q
  · exact pi_itOf p
  · exact pe_aOf p
theorem dok_G {m : M O} {gm : O → M Unit} (h : den C e = mkG m gm) (ht : isTst e = false) (p : PE X (toX e) (RdV (gOf X hx) W m)) : DOk X hx W C e := by
  refine ⟨?_, ?_, fun hi => ?_, fun tg => ?_, fun _ => ?_, fun i z => by rw [h] at z; cases z⟩ <;> rw [h]
  · exact p
  · exact pe_aOf p
  · exact pt_tOf ht (pe_aOf p)
  · exact pi_itOf p
  · exact pe_aOf p
theorem dok_I {it : M (List D)} {w : M Z.A} (h : den C e = mkI M.stuck it w) (hw : isWalkE e = true) (p : ∀ tg, PI X tg (toX e) (RdI (gOf X hx) W it)) : DOk X hx W C e := by
  refine ⟨?_, ?_, fun hi => ?_, fun tg => ?_, fun z => ?_, fun i z => by rw [h] at z; cases z⟩
  · rw [h]; exact pe_neverV
  · rw [h]; exact pe_neverA'
  · rw [h]; exact pt_neverT
  · rw [h]; exact p tg
  · rw [hw] at z; cases z
theorem RdV.here {d : D} {v : V} {Q : VK} (h : RdV g W (constD d) σ H Q) (r : ∀ F, Rp g F d v) : Q v H := by
  obtain ⟨A, S, q⟩ := h
  exact Go.pure S q v [] ⟨r _, rfl⟩ ⟨fun _ z => absurd z List.not_mem_nil, fun _ z => absurd z List.not_mem_nil⟩
theorem dok_non {k : Nat} {p : Pos} : DOk X hx W C (.non k p) := dok_V (m := constD .non) rfl (.inl rfl) (PE.weak pe_non fun σ H Q h => h.here fun F => by simp only [Rp])
theorem dok_bl {b : Bool} {k : Nat} {p : Pos} : DOk X hx W C (.bl b k p) := dok_V (m := constD (.bl b)) rfl (.inl rfl) (PE.weak pe_bl fun σ H Q h => h.here fun F => by simp only [Rp])
theorem dok_int {i : Int} {k : Nat} {p : Pos} : DOk X hx W C (.int i k p) := dok_V (m := constD (.int i)) rfl (.inl rfl) (PE.weak pe_int fun σ H Q h => h.here fun F => by simp only [Rp])
theorem dok_str {z : Str} {k : Nat} {p : Pos} (hz : z.length ≤ LIM) : DOk X hx W C (.str z k p) := dok_V (m := constD (.str z)) rfl (.inl rfl) (PE.weak pe_str fun σ H Q h => h.here fun F => by simp only [Rp, true_and]; exact hz)
/-- a name of the text: a constant -/
theorem dok_glb {x : Str} {p : Pos} (hcon : ∀ d, C.con x = some d → ∃ v, (∀ F, Rp (gOf X hx) F d v) ∧ PE X (.Name x p) (tC v)) : DOk X hx W C (.glb x p) := by
  refine dok_V (m := (opt (C.con x)).bind constD) rfl (.inl rfl) ?_
  cases h : C.con x with
  | none => exact ⟨fun pins s σ H Q I ⟨A, _, q⟩ => q.elim⟩
  | some d =>
    obtain ⟨v, r, pe⟩ := hcon d h
    refine PE.weak pe fun σ H Q h => ?_
    have h' : RdV (gOf X hx) W (constD d) σ H Q := h
    exact h'.here r
/-- a variable -/
theorem dok_var {i : Nat} {x : Str} {p : Pos} (hN : X.N[i]? = some x) (hv : Vis X.env.scope x) (hd : (x == ("__debug__" : Str)) = false) (hcd : (x == ("__classdict__" : Str)) = false) : DOk X hx W C (.var i x p) := by
  have pv : PE X (toX (.var i x p)) (RdV (gOf X hx) W ((freezeVar i).bind constD)) := PE.weak (pe_var hN hv hd hcd) fun σ H Q ⟨A, S, q⟩ => by
    have hO : ∃ o d, getO A.env i = some o ∧ frzO o = some d := by
      unfold M.bind freezeVar at q
      cases e : getO A.env i with
      | none => rw [e] at q; exact q.elim
      | some o => cases o <;> first | exact ⟨_, _, rfl, rfl⟩ | (rw [e] at q; exact q.elim)
    obtain ⟨o, d, e1, e2⟩ := hO
    obtain ⟨B, v, eB, st, h1, r⟩ := freezeVar_step S (getO_some e1) e2
    have q2 : Go (gOf X hx) W σ A H (.ok (.frz d) (A.env.set i (some (.frz d)))) fun o B H' => ∀ v L, Ow (gOf X hx) B.F H' o v L → Apt A H B L → Q v H' := by
      unfold M.bind freezeVar at q
      rw [e1] at q
      cases o with
      | frz d' =>
        cases e2
        have e3 : A.env.set i (some (.frz d')) = A.env := by
          apply List.ext_getElem?
          intro j
          by_cases hj : i = j
          · subst hj
            rw [List.getElem?_set_self (List.getElem?_eq_some_iff.mp (getO_some e1)).1, getO_some e1]
          · rw [List.getElem?_set_ne hj]
        show Go _ _ _ _ _ (R.ok (O.frz d') (A.env.set i (some (.frz d')))) _
        rw [e3]; exact q
      | lst ds => cases e2; exact q
      | dct kvs => cases e2; exact q
      | ins c fs => cases e2
      | exc c a => cases e2
    exact ⟨v, h1, q2 B H eB st v [] ⟨r, rfl⟩ ⟨fun _ z => absurd z List.not_mem_nil, fun _ z => absurd z List.not_mem_nil⟩⟩
  have pa : PE X (toX (.var i x p)) (RdA (gOf X hx) W (den C (.var i x p)).a) := PE.weak (pe_var hN hv hd hcd) fun σ H Q ⟨A, S, q⟩ => by
    have q : Go (gOf X hx) W σ A H (match getO A.env i with
      | some (.frz d) => .ok (.val d) A.env
      | some _ => .ok (.plc i) A.env
      | none => .st) fun a B H' => ∀ v, RepA (gOf X hx) σ B a v → Q v H' := q
    cases e : getO A.env i with
    | none => rw [e] at q; exact q.elim
    | some o =>
      obtain ⟨v, h1, h2⟩ := S.slot i o (getO_some e)
      rw [e] at q
      cases o <;> first | exact ⟨v, h1, q A H rfl (.refl S) v h1⟩ | exact ⟨v, h1, q A H rfl (.refl S) v h2.1⟩
  exact ⟨pv, pa, fun _ => pt_tOf rfl pa, fun tg => pi_itOf pv, fun _ => pa, fun j e => by cases e; exact pe_var hN hv hd hcd⟩
theorem dok_bin {op : Bop} {a b : E} {p : Pos} (ha : DOk X hx W C a) (hb : DOk X hx W C b) : DOk X hx W C (.bin op a b p) :=
  dok_V (m := two (den C a).a (den C b).a fun u v => opt (binD op u v)) rfl (.inl rfl) (PE.weak (pe_op (op_bin op) ha.a hb.a) fun σ H Q h => tOp_two (r := rBin X hx op) (fun u v x y C2 H2 Q S h1 h2 k => by
    intro H0 st q
    obtain ⟨o, e, af⟩ := KV.opt st q
    exact ⟨_, C2, u, v, o, S, h1, h2, e, af⟩) h)
theorem dok_neg {a : E} {p : Pos} (ha : DOk X hx W C a) : DOk X hx W C (.neg a p) := by
  refine dok_V (m := one (den C a).a fun u => match u with
    | .int i => constD (.int (-i))
    | _ => M.stuck) rfl (.inl rfl) (PE.weak (pe_un un_neg ha.a) fun σ H Q ⟨A, S, q⟩ => ⟨A, S, (Go.one q).mono fun x B H1 st ⟨u, e, q2⟩ v r => ?_⟩)
  have l := r.later (.refl st.sim) e
  cases u with
  | int i =>
    obtain rfl := lk_int l
    exact ⟨i, rfl, aft_int st.sim (KV.const st q2)⟩
  | _ => exact q2.elim
theorem Go.lookB {x : Z.A} {kk : D → M α} {f : α → M β} {k : β → Ab → Hp → Prop} (h : Go g W σ A H ((M.bind (fun s => match x.get s with
    | some d => kk d s
    | none => .st) f) A.env) k) : ∃ d, x.get A.env = some d ∧ Go g W σ A H ((M.bind (kk d) f) A.env) k := by
  cases e : x.get A.env with
  | none =>
    unfold M.bind at h
    simp only [e] at h
    exact h.elim
  | some d =>
    refine ⟨d, rfl, ?_⟩
    unfold M.bind at h ⊢
    simp only [e] at h
    exact h
/-! ### tests -/
theorem rdT_V {m : M Bool} {Q : Bool → Hp → Prop} (h : RdT g W m σ H Q) : RdV g W (blM m) σ H fun x H' => ∃ k, x = .bl k ∧ Q k H' := by
  obtain ⟨A, S, q⟩ := h
  refine ⟨A, S, ?_⟩
  unfold blM M.bind
  cases e : m A.env with
  | ok b s =>
    rw [e] at q
    exact fun B H' eB st v L ow _ => ⟨b, by have := ow.1; simpa only [Rp] using this, q B H' eB st⟩
  | ex x s => rw [e] at q; exact q
  | st => rw [e] at q; exact q.elim
theorem op_two {op : Cop} {x y : M Z.A} {Q : VK} (h : RdV (gOf X hx) W (blM (two x y fun u v => opt (cmpD op u v))) σ H Q) : tOp (rCmp X hx op) (RdA (gOf X hx) W x) (RdA (gOf X hx) W y) σ H Q := by
  unfold blM at h
  rw [two_bind] at h
  refine tOp_two (r := rCmp X hx op) (fun u v a b C2 H2 Q S h1 h2 H0 st q => ?_) h
  intro q2
  obtain ⟨t, e, q3⟩ := Go.optB q2
  exact ⟨_, C2, u, v, t, S, h1, h2, e, aft_bl S (KV.const q q3)⟩
theorem dok_cmp {op : Cop} {a b : E} {p : Pos} (hu : X.A.units + 300 < cLine) (ha : DOk X hx W C a) (hb : DOk X hx W C b) : DOk X hx W C (.cmp op a b p) :=
  dok_T (m := blM (two (den C a).a (den C b).a fun u v => opt (cmpD op u v))) rfl (PE.weak (pe_cmpR (op_cmp hu op) ha.a hb.a (no_marks _)) fun σ H Q h => op_two h)
    (PT.weak (pt_cmpR (op_cmp hu op) ha.a hb.a (no_marks _)) fun σ H Q h => op_two (rdT_V h))
theorem op_chn {o1 o2 : Cop} {x y z : M Z.A} {Q : VK} (h : RdV (gOf X hx) W (blM (chnT o1 o2 x y z)) σ H Q) : tChain (rCmp X hx o1) (rCmp X hx o2) (RdA (gOf X hx) W x) (RdA (gOf X hx) W y) (RdA (gOf X hx) W z) σ H Q := by
  obtain ⟨A, S, q⟩ := h
  unfold blM chnT at q
  rw [bind_assoc] at q
  refine ⟨A, S, (Go.split q).mono fun a B H1 st q1 v1 r1 => ⟨B, st.sim, ?_⟩⟩
  rw [bind_assoc] at q1
  refine (Go.split q1).mono fun b B2 H2 st2 q2 v2 r2 => ?_
  cases e1 : a.get B2.env with
  | none =>
    unfold M.bind at q2
    dsimp only at q2
    rw [e1] at q2
    exact q2.elim
  | some u =>
    cases e2 : b.get B2.env with
    | none =>
      unfold M.bind at q2
      dsimp only at q2
      rw [e1, e2] at q2
      exact q2.elim
    | some w =>
      have q3 : Go (gOf X hx) W σ B2 H2 (((opt (cmpD o1 u w)).bind fun t => M.bind (if t = true then z.bind fun z => fun s => match b.get s, z.get s with
          | some v, some w => opt (cmpD o2 v w) s
          | _, _ => .st else M.pure false) fun t => constD (.bl t)) B2.env) (KV (gOf X hx) A H Q) := by
        rw [← bind_assoc]
        unfold M.bind at q2 ⊢
        dsimp only at q2
        rw [e1, e2] at q2
        exact q2
      obtain ⟨t, e3, q4⟩ := Go.optB q3
      refine ⟨_, B2, u, w, t, st2.sim, (r1.step (.refl st.sim)).later st2 e1, r2.later (.refl st2.sim) e2, e3, t, rfl, ?_⟩
      cases t with
      | false =>
        rw [if_neg (by decide)]
        exact aft_bl st2.sim (KV.const (st.trans st2) q4)
      | true =>
        rw [if_pos rfl]
        rw [if_pos rfl, bind_assoc] at q4
        refine ⟨B2, st2.sim, (Go.split q4).mono fun c B3 H3 st3 q5 v3 r3 => ?_⟩
        cases e4 : b.get B3.env with
        | none =>
          unfold M.bind at q5
          dsimp only at q5
          rw [e4] at q5
          exact q5.elim
        | some w2 =>
          cases e5 : c.get B3.env with
          | none =>
            unfold M.bind at q5
            dsimp only at q5
            rw [e4, e5] at q5
            exact q5.elim
          | some w3 =>
            have q6 : Go (gOf X hx) W σ B3 H3 (((opt (cmpD o2 w2 w3)).bind fun t => constD (.bl t)) B3.env) (KV (gOf X hx) A H Q) := by
              unfold M.bind at q5 ⊢
              dsimp only at q5
              rw [e4, e5] at q5
              exact q5
            obtain ⟨t2, e6, q7⟩ := Go.optB q6
            exact ⟨_, B3, w2, w3, t2, st3.sim, (r2.step (.refl st2.sim)).later st3 e4, r3.later (.refl st3.sim) e5, e6, aft_bl st3.sim (KV.const ((st.trans st2).trans st3) q7)⟩
theorem marks2 {o1 o2 : Cop} {b c : E} : lastMarks [o1.x, o2.x] [toX b, toX c] = false := by
  show behindInMarks o2.x (toX c) = false
  exact no_marks _
theorem dok_chn {o1 o2 : Cop} {a b c : E} {p : Pos} (hu : X.A.units + 300 < cLine) (ha : DOk X hx W C a) (hb : DOk X hx W C b) (hc : DOk X hx W C c) : DOk X hx W C (.chn o1 o2 a b c p) :=
  dok_T (m := blM (chnT o1 o2 (den C a).a (den C b).a (den C c).a)) rfl (PE.weak (pe_chain (op_cmp hu o1) (op_cmp hu o2) ha.a hb.a hc.a marks2) fun σ H Q h => op_chn h)
    (PT.weak (pt_chain (op_cmp hu o1) (op_cmp hu o2) ha.a hb.a hc.a marks2) fun σ H Q h => op_chn (rdT_V h))
theorem dok_nt {a : E} {p : Pos} (ha : DOk X hx W C a) (hi : isIfe a = false) : DOk X hx W C (.nt a p) := by
  have pt : PT X (toX (.nt a p)) (RdT (gOf X hx) W ((den C a).t.bind fun b => M.pure (!b))) := PT.weak (pt_not (ha.t hi)) fun σ H Q ⟨A, S, q⟩ =>
    ⟨A, S, (Go.split q).mono fun b B H1 st q1 => Go.pure st.sim q1⟩
  refine dok_T (m := blM ((tOf (den C a).a).bind fun b => M.pure (!b))) rfl (PE.weak (pe_notT ha.a) fun σ H Q ⟨A, S, q⟩ => ?_) pt
  unfold blM tOf at q
  rw [bind_assoc, bind_assoc] at q
  refine ⟨A, S, (Go.split q).mono fun x B H1 st q1 v r => ?_⟩
  obtain ⟨d, e, q2⟩ := Go.lookB q1
  obtain ⟨t, e2, q3⟩ := Go.optB q2
  exact ⟨t, tru_lk st.sim (r.later (.refl st.sim) e) e2, aft_bl st.sim (KV.const st q3)⟩
theorem pw_and' {p : Pos} : ∀ {es : List E}, es ≠ [] → (∀ e ∈ es, DOk X hx W C e) → (∀ e ∈ es, isIfe e = false) → PW X (.BoolOp .And (toXs es) p) (RdT (gOf X hx) W (tsM true (dens C es)))
  | [], h, _, _ => absurd rfl h
  | [a], _, h, hi => by
    have p1 := pw_and1 (pos := p) ((h a List.mem_cons_self).t (hi a List.mem_cons_self))
    refine ⟨fun wh pins s σ H Q I q => p1.run wh pins s σ H Q I ?_⟩
    obtain ⟨A, S, q⟩ := q
    refine ⟨A, S, (Go.split q).mono fun b B H1 st q1 => ?_⟩
    cases b with
    | true => exact Go.pure st.sim q1
    | false => exact Go.pure st.sim q1
  | a :: b :: r, _, h, hi => by
    have ih := pw_and' (p := p) (es := b :: r) (by simp) (fun e he => h e (List.mem_cons_of_mem _ he)) fun e he => hi e (List.mem_cons_of_mem _ he)
    have p1 := pw_and (pos := p) ((h a List.mem_cons_self).t (hi a List.mem_cons_self)) ih
    refine ⟨fun wh pins s σ H Q I q => p1.run wh pins s σ H Q I ?_⟩
    obtain ⟨A, S, q⟩ := q
    refine ⟨A, S, (Go.split q).mono fun b B H1 st q1 => ?_⟩
    cases b with
    | true =>
      rw [if_pos rfl]
      exact ⟨B, st.sim, q1⟩
    | false =>
      rw [if_neg (by decide)]
      exact Go.pure st.sim q1
theorem pw_or' {p : Pos} : ∀ {es : List E}, es ≠ [] → (∀ e ∈ es, DOk X hx W C e) → (∀ e ∈ es, isIfe e = false) → PW X (.BoolOp .Or (toXs es) p) (RdT (gOf X hx) W (tsM false (dens C es)))
  | [], h, _, _ => absurd rfl h
  | [a], _, h, hi => by
    have p1 := pw_or1 (pos := p) ((h a List.mem_cons_self).t (hi a List.mem_cons_self))
    refine ⟨fun wh pins s σ H Q I q => p1.run wh pins s σ H Q I ?_⟩
    obtain ⟨A, S, q⟩ := q
    refine ⟨A, S, (Go.split q).mono fun b B H1 st q1 => ?_⟩
    cases b with
    | true => exact Go.pure st.sim q1
    | false => exact Go.pure st.sim q1
  | a :: b :: r, _, h, hi => by
    have ih := pw_or' (p := p) (es := b :: r) (by simp) (fun e he => h e (List.mem_cons_of_mem _ he)) fun e he => hi e (List.mem_cons_of_mem _ he)
    have p1 := pw_or (pos := p) ((h a List.mem_cons_self).t (hi a List.mem_cons_self)) ih
    refine ⟨fun wh pins s σ H Q I q => p1.run wh pins s σ H Q I ?_⟩
    obtain ⟨A, S, q⟩ := q
    refine ⟨A, S, (Go.split q).mono fun b B H1 st q1 => ?_⟩
    cases b with
    | true =>
      rw [if_pos rfl]
      exact Go.pure st.sim q1
    | false =>
      rw [if_neg (by decide)]
      exact ⟨B, st.sim, q1⟩
end
end Z
end

section
set_option Elab.async false
set_option linter.all false
set_option maxRecDepth 100000
set_option maxHeartbeats 1000000
/-! ZDok2: and, or, if, items, slices, displays, built-in functions and methods. -/
namespace Z
open PySem L2
section
variable {α β γ : Type} {X : Cx} {hx : HX} {W : WX} {C : Cxt} {g : G} {σ : L2.St} {A : Ab} {H : Hp} {e : E}
theorem rdD_V {m : M D} {Q : VK} (h : RdV g W (m.bind constD) σ H Q) : RdD g W m σ H Q := by
  obtain ⟨A, S, q⟩ := h
  refine ⟨A, S, (Go.split q).mono fun d B H1 st q1 v r => ?_⟩
  exact Go.pure st.sim q1 v [] ⟨r, rfl⟩ ⟨fun _ z => absurd z List.not_mem_nil, fun _ z => absurd z List.not_mem_nil⟩
theorem pe_and' {p : Pos} : ∀ {es : List E}, es ≠ [] → (∀ e ∈ es, DOk X hx W C e) → PE X (.BoolOp .And (toXs es) p) (RdD (gOf X hx) W (andM (dens C es)))
  | [], h, _ => absurd rfl h
  | [a], _, h => pe_one (pe_dOf (h a List.mem_cons_self).v)
  | a :: b :: r, _, h => by
    have ih := pe_and' (p := p) (es := b :: r) (by simp) fun e he => h e (List.mem_cons_of_mem _ he)
    refine PE.weak (pe_andT (pos := p) (pe_dOf (h a List.mem_cons_self).v) ih) fun σ H Q ⟨A, S, q⟩ => ?_
    refine ⟨A, S, (Go.split q).mono fun d B H1 st q1 v rv => ?_⟩
    obtain ⟨t, e, q2⟩ := Go.optB q1
    refine ⟨t, tru_lk st.sim (st.sim.lk rv) e, ?_⟩
    cases t with
    | true => rw [if_pos rfl] at q2 ⊢; exact ⟨B, st.sim, q2⟩
    | false => rw [if_neg (by decide)] at q2 ⊢; exact Go.pure st.sim q2 v rv
theorem pe_or' {p : Pos} : ∀ {es : List E}, es ≠ [] → (∀ e ∈ es, DOk X hx W C e) → PE X (.BoolOp .Or (toXs es) p) (RdD (gOf X hx) W (orM (dens C es)))
  | [], h, _ => absurd rfl h
  | [a], _, h => pe_one (pe_dOf (h a List.mem_cons_self).v)
  | a :: b :: r, _, h => by
    have ih := pe_or' (p := p) (es := b :: r) (by simp) fun e he => h e (List.mem_cons_of_mem _ he)
    refine PE.weak (pe_orT (pos := p) (pe_dOf (h a List.mem_cons_self).v) ih) fun σ H Q ⟨A, S, q⟩ => ?_
    refine ⟨A, S, (Go.split q).mono fun d B H1 st q1 v rv => ?_⟩
    obtain ⟨t, e, q2⟩ := Go.optB q1
    refine ⟨t, tru_lk st.sim (st.sim.lk rv) e, ?_⟩
    cases t with
    | true => rw [if_pos rfl] at q2 ⊢; exact Go.pure st.sim q2 v rv
    | false => rw [if_neg (by decide)] at q2 ⊢; exact ⟨B, st.sim, q2⟩
theorem dok_band {es : List E} {p : Pos} (hne : es ≠ []) (h : ∀ e ∈ es, DOk X hx W C e) (hi : ∀ e ∈ es, isIfe e = false) : DOk X hx W C (.band es p) :=
  dok_T (m := (andM (dens C es)).bind constD) rfl (PE.weak (pe_and' hne h) fun σ H Q q => rdD_V q) (pw_and' hne h hi).pt
theorem dok_bor {es : List E} {p : Pos} (hne : es ≠ []) (h : ∀ e ∈ es, DOk X hx W C e) (hi : ∀ e ∈ es, isIfe e = false) : DOk X hx W C (.bor es p) :=
  dok_T (m := (orM (dens C es)).bind constD) rfl (PE.weak (pe_or' hne h) fun σ H Q q => rdD_V q) (pw_or' hne h hi).pt
theorem RdV.at {m : M O} {Q : VK} {B : Ab} {H1 : Hp} (st : Step g A H B σ H1) (h : Go g W σ B H1 (m B.env) (KV g A H Q)) : RdV g W m σ H1 Q :=
  ⟨B, st.sim, h.mono fun o D H2 st2 q v L ow ap => q v L ow (ap.back st)⟩
theorem dok_ife {c a b : E} {p : Pos} (hc : DOk X hx W C c) (hi : isIfe c = false) (ha : DOk X hx W C a) (hb : DOk X hx W C b) : DOk X hx W C (.ife c a b p) := by
  refine dok_V (m := (den C c).t.bind fun t => if t then (den C a).v else (den C b).v) rfl (.inr rfl) (PE.weak (pe_ifExp (hc.t hi) ha.v hb.v) fun σ H Q ⟨A, S, q⟩ => ⟨A, S, (Go.split q).mono fun t B H1 st q1 => ?_⟩)
  cases t with
  | true => rw [if_pos rfl] at q1 ⊢; exact RdV.at st q1
  | false => rw [if_neg (by decide)] at q1 ⊢; exact RdV.at st q1
theorem dok_sub {a i : E} {p : Pos} (hu : X.A.units + 300 < cLine) (ha : DOk X hx W C a) (hi : DOk X hx W C i) : DOk X hx W C (.sub a i p) :=
  dok_G (m := two (den C a).a (den C i).a fun u v => (opt (subD u v)).bind constD) (gm := subG (den C a) (den C i)) rfl rfl (PE.weak (pe_ix (ix_sub hu) ha.a hi.a plain_ix) fun σ H Q h => tOp_two (r := rSub X hx) (fun u v x y C2 H2 Q S h1 h2 H0 st q => by
    intro q2
    obtain ⟨d, e, q3⟩ := Go.optB q2
    exact ⟨_, C2, u, v, d, S, h1, h2, e, KV.const q q3⟩) h)
/-! ### slices -/
def RdO (g : G) (W : WX) (m : M (Option Int)) : TO := fun σ H Q => ∃ A, Sm g A σ H ∧ Go g W σ A H (m A.env) fun o B H' => Q o H'
theorem po_den {e : Option E} (h : ∀ x, e = some x → DOk X hx W C x) : PO X (toXo e) (RdO (gOf X hx) W (oM (denO C e))) := by
  cases e with
  | none => exact ⟨fun pins s σ H Q I ⟨A, S, q⟩ => po_none.run pins s σ H Q I (Go.pure S q)⟩
  | some x =>
    have p := po_some (h x rfl).a
    refine ⟨fun pins s σ H Q I ⟨A, S, q⟩ => p.run pins s σ H Q I ⟨A, S, (Go.split q).mono fun a B H1 st q1 v r => ?_⟩⟩
    have q2 : Go (gOf X hx) W σ B H1 (match a.get B.env with
      | some (.int i) => .ok (some i) B.env
      | _ => .st) fun o B H' => Q o H' := q1
    cases e1 : a.get B.env with
    | none => rw [e1] at q2; exact q2.elim
    | some d =>
      rw [e1] at q2
      have l := r.later (.refl st.sim) e1
      cases d with
      | int i =>
        obtain rfl := lk_int l
        exact ⟨i, rfl, q2 B H1 rfl (.refl st.sim)⟩
      | _ => exact q2.elim
theorem Go.look {x : Z.A} {kk : D → M α} {k : α → Ab → Hp → Prop} (h : Go g W σ A H (match x.get A.env with
    | some d => kk d A.env
    | none => .st) k) : ∃ d, x.get A.env = some d ∧ Go g W σ A H (kk d A.env) k := by
  cases e : x.get A.env with
  | none => rw [e] at h; exact h.elim
  | some d => rw [e] at h; exact ⟨d, rfl, h⟩
theorem dok_slc {a : E} {lo hi : Option E} {p q : Pos} (ha : DOk X hx W C a) (hl : ∀ x, lo = some x → DOk X hx W C x) (hh : ∀ x, hi = some x → DOk X hx W C x) : DOk X hx W C (.slc a lo hi none p q) := by
  refine dok_V (m := slcM (den C a) (denO C lo) (denO C hi)) rfl (.inl rfl) (PE.weak (pe_slice (sl_slc (hx := hx)) ha.a (po_den hl) (po_den hh)) fun σ H Q ⟨A, S, q⟩ => ?_)
  refine ⟨A, S, (Go.split q).mono fun x B H1 st q1 v r => ⟨B, st.sim, (Go.split q1).mono fun l B2 H2 st2 q2 => ⟨B2, st2.sim, (Go.split q2).mono fun h B3 H3 st3 q3 => ?_⟩⟩⟩
  obtain ⟨u, e, q4⟩ := Go.look q3
  obtain ⟨o, e2, af⟩ := KV.opt ((st.trans st2).trans st3) q4
  exact ⟨_, B3, u, o, st3.sim, r.later (st2.trans st3) e, e2, af⟩
/-! ### displays -/
theorem Go.know {r : R α} {k : α → Ab → Hp → Prop} {P : α → Prop} (hp : ∀ a s, r = .ok a s → P a) (h : Go g W σ A H r k) : Go g W σ A H r fun a B H' => P a ∧ k a B H' := by
  cases r with
  | ok a s => exact fun B H' e st => ⟨hp a s rfl, h B H' e st⟩
  | ex x s => exact h
  | st => exact h
theorem dsM_len : ∀ {es : List Den} {s s' : Env} {ds : List D}, dsM es s = .ok ds s' → ds.length = es.length
  | [], s, s', ds, h => by cases h; rfl
  | e :: r, s, s', ds, h => by
    have h : (M.bind e.d fun a => (dsM r).bind fun as => M.pure (a :: as)) s = .ok ds s' := h
    unfold M.bind at h
    cases e1 : e.d s with
    | ok a s1 =>
      rw [e1] at h
      dsimp only at h
      cases e2 : dsM r s1 with
      | ok as s2 =>
        rw [e2] at h
        cases h
        simp [dsM_len e2]
      | ex x s2 => rw [e2] at h; cases h
      | st => rw [e2] at h; cases h
    | ex x s1 => rw [e1] at h; cases h
    | st => rw [e1] at h; cases h
theorem dens_len : ∀ es : List E, (dens C es).length = es.length
  | [] => rfl
  | e :: r => by
    show (den C e :: dens C r).length = _
    rw [List.length_cons, dens_len r] <;> rfl
theorem dok_lst {es : List E} {p : Pos} (hs : es.all (fun e => !isStar e) = true) (hl : es.length ≤ 1000) (h : ∀ e ∈ es, DOk X hx W C e) : DOk X hx W C (.lst es p) := by
  refine dok_V (m := (spM (dens C es)).bind fun ds => M.pure (.lst ds)) rfl (.inl rfl) (PE.weak (pe_lst (pa_ds hs fun e he => (h e he).v)) fun σ H Q ⟨A, S, q⟩ => ?_)
  rw [spM_ds hs] at q
  refine ⟨A, S, (Go.know (fun ds s e => (dsM_len e).trans (dens_len es)) (Go.split q)).mono fun ds B H1 st ⟨hn, q1⟩ vs r => ⟨?_, ?_⟩⟩
  · rw [← r.length, hn]
    exact Nat.le_trans hl (by rw [sizeLine_eq]; decide)
  · exact aft_lst st.sim (KV.aft st q1 rfl) r
theorem dok_tup {es : List E} {k : Nat} {p : Pos} (hs : es.all (fun e => !isStar e) = true) (hl : es.length ≤ 1000) (h : ∀ e ∈ es, DOk X hx W C e) : DOk X hx W C (.tup es k p) := by
  have pv : PE X (toX (.tup es k p)) (RdV (gOf X hx) W ((spM (dens C es)).bind fun ds => constD (.tup ds))) := PE.weak (pe_tup (pa_ds hs fun e he => (h e he).v)) fun σ H Q ⟨A, S, q⟩ => by
    rw [spM_ds hs] at q
    refine ⟨A, S, (Go.know (fun ds s e => (dsM_len e).trans (dens_len es)) (Go.split q)).mono fun ds B H1 st ⟨hn, q1⟩ vs r => ⟨?_, ?_⟩⟩
    · rw [← r.length, hn]
      exact Nat.le_trans hl (by rw [sizeLine_eq]; decide)
    · exact aft_tup st.sim (KV.aft st q1 rfl) r
  exact ⟨pv, pe_aOf pv, fun _ => pt_tOf rfl (pe_aOf pv), fun tg => pi_itOf pv, fun _ => pe_aOf pv, fun j e => by cases e⟩
/-! ### built-in functions -/
theorem pe_biV {x : Str} {f : Value} {es : List E} {p q : Pos} (hc : CallR X f (rBi X hx x)) (hf : (∃ id, f = .builtin id) ∨ ∃ T, f = .type T) (hv : bootBuiltins x = some f) (hg : Gl X x) (hm : X.mg x = none) (hn : x ≠ "__name__") (hdb : (x == ("__debug__" : Str)) = false)
    (hi : (x == ("isinstance" : Str)) = false) (hne : es ≠ []) (hs : es.all (fun e => !isStar e) = true) (h : ∀ e ∈ es, DOk X hx W C e) (hw : ∀ e ∈ es, isWalkE e = false) :
    PE X (toX (.bi x es p q)) (RdV (gOf X hx) W (biM C x es (dens C es))) := by
  cases es with
  | nil => exact absurd rfl hne
  | cons e r =>
    have h1 := hs
    simp only [List.all_cons, Bool.and_eq_true, Bool.not_eq_true'] at h1
    have any := star_all h1.2 q X.env
    have call : ∀ {t : TA}, PA X (toX e :: toXs r) t → PE X (toX (.bi x (e :: r) p q)) (tCB (rBi X hx x) t) := fun {t} pa => by
      rcases hf with ⟨id, rfl⟩ | ⟨T, rfl⟩
      · exact pe_callB hc hg hm hv pa hn hdb (star_each h1.1 _ _) any
      · exact pe_callTy hc hg hm hv pa hn hdb (star_each h1.1 _ _) any
    cases r with
    | nil =>
      refine PE.weak (call (pa_cons ((h e List.mem_cons_self).w (hw e List.mem_cons_self)) pa_nil (star_each h1.1 _ _))) fun σ H Q hq => ?_
      unfold biM at hq
      rw [if_neg (by rw [hi]; decide)] at hq
      obtain ⟨A, S, q⟩ := hq
      refine ⟨A, S, (Go.one q).mono fun a B H1 st ⟨u, e1, q1⟩ v r => ?_⟩
      obtain ⟨o, e2, af⟩ := KV.opt st q1
      exact ⟨_, B, [u], o, st.sim, ⟨v, [], rfl, r.later (.refl st.sim) e1, rfl⟩, e2, af⟩
    | cons e2 r =>
      refine PE.weak (call (pa_as (hx := hx) (W := W) hs fun e he => (h e he).a)) fun σ H Q hq => ?_
      unfold biM at hq
      rw [if_neg (by rw [hi]; decide)] at hq
      obtain ⟨A, S, q⟩ := hq
      refine ⟨A, S, (Go.many q).mono fun as B H1 st ⟨ds, e1, q1⟩ vs r => ?_⟩
      obtain ⟨o, e3, af⟩ := KV.opt st q1
      exact ⟨_, B, ds, o, st.sim, r.later (.refl st.sim) e1, e3, af⟩
end
end Z
end

section
set_option Elab.async false
set_option linter.all false
set_option maxRecDepth 100000
set_option maxHeartbeats 1000000
/-! ZDok3: methods; isinstance. -/
namespace Z
open PySem L2
section
variable {α β γ : Type} {X : Cx} {hx : HX} {W : WX} {C : Cxt} {g : G} {σ : L2.St} {A B : Ab} {H H1 : Hp} {e : E}
theorem few_args {es : List E} {q : Pos} {env : PySem.Env} (hs : es.all (fun e => !isStar e) = true) (hl : es.length < 29) : ((backTo q (starEach (toXs es) env)).all (fun x => !x.1) && (backToKw q (keywordEach [] env)).all (fun x => x.1.isSome)
      && decide ((toXs es).length + ([] : List Keyword).length + (if ([] : List Keyword).isEmpty then 0 else 1) < 30)) = true := by
  have h1 := star_all hs q env
  have h2 : (backTo q (starEach (toXs es) env)).all (fun x => !x.1) = true := by
    rw [List.all_eq_true]
    rw [List.any_eq_false] at h1
    intro x hx
    have := h1 x hx
    simpa using this
  have h3 : (toXs es).length = es.length := by
    clear h1 h2 hs hl
    induction es with
    | nil => rfl
    | cons a r ih => show (toXs r).length + 1 = _; rw [ih] <;> rfl
  rw [h2, h3]
  show (true && true && decide (es.length + 0 + 0 < 30)) = true
  simp; omega
def noCall0 : E → Bool
  | .bi _ [] _ _ => false
  | .call _ [] _ _ => false
  | .calle _ _ _ => false
  | _ => true
theorem base_by {o : E} {m : Str} {env : PySem.Env} (h : noCall0 o = true) : attributeBase (toX o) m env (eval (toX o) env) = eval (toX o) env := by
  cases o <;> first | rfl | cases h | skip
  case bi x es p q =>
    cases es with
    | nil => cases h
    | cons a r => rfl
  case call x es p q =>
    cases es with
    | nil => cases h
    | cons a r => rfl
theorem ty_kind {m : Str} {u : D} {v : V} (h : Lk g A.F H u v) (hk : kindM m u = true) : tyV g.K (methT m) v H := by
  cases u with
  | lst ds =>
    obtain ⟨a, xs, rfl, h1, _⟩ := lk_lst h
    have e : methT m = "list" := by simpa [kindM] using hk
    exact .inl ⟨e, xs, .inl (.of h1)⟩
  | str z =>
    obtain ⟨rfl, _⟩ := lk_str h
    have e : methT m = "str" := by simpa [kindM] using hk
    exact e
  | _ => cases hk
theorem pe_plainM {m : Str} {id : String} {o : E} {es : List E} {p q : Pos} (pa : PlainAttrs (methT m)) (slot : Slot (methT m) m id) (hty : typeOf (.builtin id) = pure (.type "method_descriptor")) (hm : MtR X id (rMt X hx m))
    (ho : DOk X hx W C o) (hb : noCall0 o = true) (hline : (p.endLine == q.line) = true) (hne : es ≠ []) (hs : es.all (fun e => !isStar e) = true) (hl : es.length < 29) (h : ∀ e ∈ es, DOk X hx W C e) :
    PE X (toX (.meth o m es p q)) (RdV (gOf X hx) W (plainMeth m (den C o) (dens C es))) := by
  cases es with
  | nil => exact absurd rfl hne
  | cons e r =>
    have h1 := hs
    simp only [List.all_cons, Bool.and_eq_true, Bool.not_eq_true'] at h1
    refine PE.weak (pe_bm pa slot hty hm ho.a (pa_as (hx := hx) (W := W) hs fun e he => (h e he).a) (base_by hb) (few_args (es := e :: r) hs hl) hline (star_each h1.1 _ _) (star_all h1.2 q X.env)) fun σ H Q ⟨A, S, q⟩ => ?_
    refine ⟨A, S, (Go.split q).mono fun x B H1 st q1 v rv => ?_⟩
    have q2 := Go.one q1
    have q2 := Go.pure st.sim q2
    obtain ⟨u0, e0, q3⟩ := q2
    have l0 := rv.later (.refl st.sim) e0
    cases hk : kindM m u0 with
    | false => rw [hk, if_neg (by decide)] at q3; exact q3.elim
    | true =>
      rw [hk, if_pos rfl] at q3
      refine ⟨ty_kind l0 hk, B, st.sim, (Go.split q3).mono fun as B2 H2 st2 q4 vs rvs => ?_⟩
      obtain ⟨u, e1, q5⟩ := Go.look (kk := fun u s => match gets s as with
        | some ds => opt (methD m u ds) s
        | none => .st) q4
      cases e2 : gets B2.env as with
      | none => rw [e2] at q5; exact q5.elim
      | some ds =>
        rw [e2] at q5
        obtain ⟨o', e3, af⟩ := KV.opt (st.trans st2) q5
        exact ⟨_, B2, u, ds, o', st2.sim, rv.later st2 e1, rvs.later (.refl st2.sim) e2, e3, af⟩
/-- what a variable owns is written -/
theorem own_write (st : Step g A H B σ H1) {i : Nat} {v : V} {a : Addr} {o' : O} {h' : HO} (hi : ∃ o, B.env[i]? = some (some o)) (hv : σ[i]? = some (some v)) (hf : B.fp i = [a]) (hF : B.F a = none) (ow : Ow g B.F (upd H1 a h') o' v [a]) (hs : ¬ g.scr a) (ha : H1 a ≠ none) :
    Step g A H ⟨B.F, B.env.set i (some o'), B.fp⟩ σ (upd H1 a h') := by
  have wa : wf B.fp a := ⟨i, by rw [hf]; exact List.mem_cons_self⟩
  have f : Fr (fun b => b = a) B.F H1 B.F (upd H1 a h') := ⟨Ext.refl _, fun b u e n => by rw [upd_ne n]; exact e, fun b e => .inl e, fun b e => by
    by_cases q : b = a
    · rw [q, upd_same]; simp
    · rw [upd_ne q]; exact e⟩
  obtain ⟨o, ho⟩ := hi
  have hil : i < B.env.length := (List.getElem?_eq_some_iff.mp ho).1
  refine ⟨⟨st.fr.ext, fun b u e n => ?_, st.fr.dom, fun b e => f.used b (st.fr.used b e)⟩, ⟨fun b u e => ?_, st.sim.pl, fun b xs e ns => ?_, fun b e => f.used b (st.sim.scu b e), by show (B.env.set i _).length = _; rw [List.length_set]; exact st.sim.len, fun j u e => ?_, fun j e => ?_, st.sim.dis⟩, st.sb⟩
  · have ne : b ≠ a := fun z => by
      subst z
      rcases st.sb b wa with z | z
      · exact n z
      · rw [e] at z; cases z
    rw [upd_ne ne]; exact st.fr.keep b u e n
  · have ne : b ≠ a := fun z => by rw [z, hF] at e; cases e
    rcases st.sim.sub b u e with z | ⟨w, z⟩
    · exact .inl (by rw [upd_ne ne]; exact z)
    · exact .inr ⟨w, by rw [upd_ne ne]; exact z⟩
  · have ne : b ≠ a := fun z => by rw [z, hF] at e; cases e
    rw [upd_ne ne]; exact st.sim.ls b xs e ns
  · have e' : (B.env.set i (some o'))[j]? = some (some u) := e
    by_cases hj : i = j
    · subst hj
      rw [List.getElem?_set_self hil] at e'
      cases e'
      exact ⟨v, hv, by show Ow _ _ _ _ _ (B.fp i); rw [hf]; exact ow⟩
    · rw [List.getElem?_set_ne hj] at e'
      obtain ⟨w, h1, h2⟩ := st.sim.slot j u e'
      exact ⟨w, h1, h2.fr f fun b hb z => hj (st.sim.dis i j b (by rw [hf, z]; exact List.mem_cons_self) hb)⟩
  · refine st.sim.emp j fun u z => ?_
    by_cases hj : i = j
    · subst hj
      exact e o' (by show (B.env.set i _)[i]? = _; rw [List.getElem?_set_self hil])
    · exact e u (by show (B.env.set i _)[j]? = _; rw [List.getElem?_set_ne hj]; exact z)
/-- what a list's method is to show, to be taken for m -/
def MutR (g : G) (m : Str) (r : V → List V → Hp → VK → Prop) : Prop :=
  ∀ (B : Ab) (σ : L2.St) (H : Hp) (a : Addr) (xs : List V) (ds args : List D) (vs : List V) (u' : O) (d : D) (Q : VK), Sm g B σ H → H a = some (.lst xs) → Rps g B.F ds xs → Rps g B.F args vs → mutD m (.lst ds) args = some (u', d) →
    (∀ xs' ds' v, u' = .lst ds' → Rps g B.F ds' xs' → Rp g B.F d v → Q v (upd H a (.lst xs'))) → r (.ref a) vs H Q
theorem pe_mutM {m : Str} {id : String} {r : V → List V → Hp → VK → Prop} {i : Nat} {x : Str} {es : List E} {pv p q : Pos} (slot : Slot "list" m id) (hty : typeOf (.builtin id) = pure (.type "method_descriptor")) (hm : MtM X id r) (hr : MutR (gOf X hx) m r)
    (hN : X.N[i]? = some x) (hv : Vis X.env.scope x) (hd : (x == ("__debug__" : Str)) = false) (hcd : (x == ("__classdict__" : Str)) = false)
    (hline : (p.endLine == q.line) = true) (hs : es.all (fun e => !isStar e) = true) (hl : es.length < 29) (h : ∀ e ∈ es, DOk X hx W C e) :
    PE X (toX (.meth (.var i x pv) m es p q)) (RdV (gOf X hx) W (mutM m i (dens C es))) := by
  -- behind the arguments
  have key : ∀ (σ : L2.St) (H : Hp) (Q : VK) (A : Ab) (v : V), Sm (gOf X hx) A σ H → σ[i]? = some (some v) → ∀ {B : Ab} {H2 : Hp} {args : List D} {vs : List V}, Step (gOf X hx) A H B σ H2 → Rps (gOf X hx) B.F args vs →
      Go (gOf X hx) W σ B H2 ((match getO B.env i with
        | some u => match mutD m u args with
          | some (u', d) => R.ok (O.frz d) (B.env.set i (some u'))
          | none => .st
        | none => .st)) (KV (gOf X hx) A H Q) → r v vs H2 Q := fun σ H Q A v S hvi B H2 args vs st rvs q => by
    cases e : getO B.env i with
    | none => rw [e] at q; exact q.elim
    | some u =>
      rw [e] at q
      dsimp only at q
      cases e2 : mutD m u args with
      | none => rw [e2] at q; exact q.elim
      | some ud =>
        obtain ⟨u', d⟩ := ud
        rw [e2] at q
        dsimp only at q
        obtain ⟨w, h1, h2⟩ := st.sim.slot i u (getO_some e)
        rw [hvi] at h1
        cases h1
        have hu : ∃ ds, u = .lst ds := by
          unfold mutD at e2
          split at e2
          · unfold mu_append at e2; split at e2 <;> first | cases e2; done | exact ⟨_, rfl⟩
          split at e2
          · unfold mu_extend at e2; split at e2 <;> first | cases e2; done | exact ⟨_, rfl⟩
          split at e2
          · unfold mu_reverse at e2; split at e2 <;> first | cases e2; done | exact ⟨_, rfl⟩
          split at e2
          · unfold mu_pop at e2; split at e2 <;> first | cases e2; done | exact ⟨_, rfl⟩
          split at e2
          · unfold mu_insert at e2; split at e2 <;> first | cases e2; done | exact ⟨_, rfl⟩
          · cases e2
        obtain ⟨ds, rfl⟩ := hu
        obtain ⟨a, xs, rfl, hf, hH, hF, hns, hrs⟩ := h2
        refine hr B σ H2 a xs ds args vs u' d Q st.sim hH hrs rvs e2 fun xs' ds' v' eu rds rd => ?_
        subst eu
        have st2 := own_write (o' := .lst ds') (h' := .lst xs') st ⟨_, getO_some e⟩ hvi hf hF ⟨a, xs', rfl, rfl, upd_same, hF, hns, rds⟩ hns (by rw [hH]; simp)
        have st3 : Step (gOf X hx) B H2 ⟨B.F, B.env.set i (some (.lst ds')), B.fp⟩ σ (upd H2 a (.lst xs')) :=
          own_write (o' := .lst ds') (h' := .lst xs') (Step.refl st.sim) ⟨_, getO_some e⟩ hvi hf hF ⟨a, xs', rfl, rfl, upd_same, hF, hns, rds⟩ hns (by rw [hH]; simp)
        exact q _ _ rfl st3 v' [] ⟨rd, rfl⟩ ⟨fun _ z => absurd z List.not_mem_nil, fun _ z => absurd z List.not_mem_nil⟩
  have at0 : ∀ {σ : L2.St} {H : Hp} {Q : VK}, RdV (gOf X hx) W (mutM m i (dens C es)) σ H Q → ∃ (A : Ab) (v : V), Sm (gOf X hx) A σ H ∧ σ[i]? = some (some v) ∧ tyV X.K "list" v H ∧
      Go (gOf X hx) W σ A H (((dsM (dens C es)).bind fun ds => fun s => match getO s i with
        | some u => match mutD m u ds with
          | some (u', d) => .ok (.frz d) (s.set i (some u'))
          | none => .st
        | none => .st) A.env) (KV (gOf X hx) A H Q) := fun {σ H Q} ⟨A, S, q⟩ => by
    unfold mutM at q
    cases e : getO A.env i with
    | none => rw [e] at q; exact q.elim
    | some u =>
      rw [e] at q
      obtain ⟨v, h1, h2⟩ := S.slot i u (getO_some e)
      cases u with
      | lst ds =>
        obtain ⟨a, xs, rfl, _, hH, _⟩ := h2
        exact ⟨A, _, S, h1, .inl ⟨rfl, xs, .inl (.of hH)⟩, q⟩
      | _ => exact q.elim
  cases es with
  | nil =>
    refine PE.weak (pe_bm0 F.plainAttrs_list slot hty hm (pe_var hN hv hd hcd) (base_by (o := .var i x pv) rfl) hline) fun σ H Q hq => ?_
    obtain ⟨A, v, S, hvi, ty, q⟩ := at0 hq
    exact ⟨v, hvi, ty, key σ H Q A v S hvi (.refl S) .nil q⟩
  | cons e r =>
    have h1 := hs
    simp only [List.all_cons, Bool.and_eq_true, Bool.not_eq_true'] at h1
    refine PE.weak (pe_bm F.plainAttrs_list slot hty hm (pe_var hN hv hd hcd) (pa_ds (hx := hx) (W := W) hs fun e he => (h e he).v) (base_by (o := .var i x pv) rfl) (few_args (es := e :: r) hs hl) hline (star_each h1.1 _ _) (star_all h1.2 q X.env)) fun σ H Q hq => ?_
    obtain ⟨A, v, S, hvi, ty, q⟩ := at0 hq
    exact ⟨v, hvi, ty, A, S, (Go.split q).mono fun ds B H2 st q1 vs rvs => key σ H Q A v S hvi st rvs q1⟩
theorem mut_append : MutR g "append" rAppend := fun B σ H a xs ds args vs u' d Q S hH hr ha e k => by
  have e : mu_append (.lst ds) args = some (u', d) := e
  obtain _ | ⟨y, _ | ⟨y2, r2⟩⟩ := args <;> first | cases e; done | skip
  obtain ⟨c, e'⟩ := ite_some (show (if decide (ds.length < LIM) = true then some (O.lst (ds ++ [y]), D.non) else none) = some (u', d) from e)
  cases e'
  obtain ⟨v, vs', rfl, h1, h2⟩ := ha.inv
  rw [h2.nil_inv]
  have hl := hr.length
  have c := of_decide_eq_true c
  have ls := lim_size
  exact ⟨a, xs, v, rfl, rfl, hH, by omega, k _ _ _ rfl (hr.append (.cons h1 .nil)) (by simp only [Rp])⟩
theorem mut_extend : MutR g "extend" rExtend := fun B σ H a xs ds args vs u' d Q S hH hr ha e k => by
  have e : mu_extend (.lst ds) args = some (u', d) := e
  obtain _ | ⟨y, _ | ⟨y2, r2⟩⟩ := args
  · cases e
  rotate_left
  · cases y <;> cases e
  cases y with
  | lst ys =>
    obtain ⟨c, e'⟩ := ite_some (show (if decide (ds.length + ys.length ≤ LIM) = true then some (O.lst (ds ++ ys), D.non) else none) = some (u', d) from e)
    cases e'
    obtain ⟨v, vs', rfl, h1, h2⟩ := ha.inv
    rw [h2.nil_inv]
    simp only [Rp] at h1
    obtain ⟨b, zs, rfl, hb, hns, hz⟩ := h1
    have hl := hr.length
    have hl2 := hz.length
    have c := of_decide_eq_true c
    have ls := lim_size
    exact ⟨a, b, xs, zs, rfl, rfl, hH, S.ls b zs hb hns, by omega, k _ _ _ rfl (hr.append hz) (by simp only [Rp])⟩
  | _ => cases e
theorem mut_pop : MutR g "pop" rPop := fun B σ H a xs ds args vs u' d Q S hH hr ha e k => by
  have e : mu_pop (.lst ds) args = some (u', d) := e
  obtain _ | ⟨y, r2⟩ := args <;> first | cases e; done | skip
  rw [ha.nil_inv]
  have e : (ds.getLast?).map (fun x => (O.lst ds.dropLast, x)) = some (u', d) := e
  cases q : ds.getLast? with
  | none => rw [q] at e; cases e
  | some y =>
    rw [q] at e
    cases e
    rw [List.getLast?_eq_getElem?] at q
    obtain ⟨x, hx, rx⟩ := hr.get q
    have hl := hr.length
    rw [hl] at hx
    refine ⟨a, xs, x, rfl, rfl, hH, hx, k _ _ _ rfl ?_ rx⟩
    rw [List.dropLast_eq_take, List.dropLast_eq_take, hl]
    exact hr.take _
theorem mut_reverse : MutR g "reverse" rReverse := fun B σ H a xs ds args vs u' d Q S hH hr ha e k => by
  have e : mu_reverse (.lst ds) args = some (u', d) := e
  obtain _ | ⟨y, r2⟩ := args <;> first | cases e; done | skip
  have e : some (O.lst ds.reverse, D.non) = some (u', d) := e
  rw [ha.nil_inv]
  have e1 : O.lst ds.reverse = u' ∧ D.non = d := by simpa using e
  obtain ⟨rfl, rfl⟩ := e1
  exact ⟨a, xs, rfl, rfl, hH, k _ _ _ rfl hr.reverse (by simp only [Rp])⟩
end
end Z
end

section
set_option Elab.async false
set_option linter.all false
set_option maxRecDepth 100000
set_option maxHeartbeats 1000000
/-! ZDok4: isinstance. -/
namespace Z
open PySem L2
def tyNames : List Str := ["int", "bool", "str", "tuple", "list"]
def tyOfD : D → String
  | .non => "NoneType"
  | .bl _ => "bool"
  | .int _ => "int"
  | .str _ => "str"
  | .tup _ => "tuple"
  | .lst _ => "list"
  | _ => ""
/-- the handled exception's record stands among the pins -/
def HxOk (X : Cx) (hx : HX) : Prop := ∀ a D d, hx.1 = some (a, D, d) → ∃ oe, (a, oe) ∈ X.pn ∧ Zc (.ref D) d oe ∧ ∃ vs, oe.data = .fields vs
theorem kb_int : (tyNames.map fun t => kitB "int" t.toString) = [some true, some false, some false, some false, some false] := by decide +kernel
theorem kb_bool : (tyNames.map fun t => kitB "bool" t.toString) = [some true, some true, some false, some false, some false] := by decide +kernel
theorem kb_non : (tyNames.map fun t => kitB "NoneType" t.toString) = [some false, some false, some false, some false, some false] := by decide +kernel
theorem kb_str : (tyNames.map fun t => kitB "str" t.toString) = [some false, some false, some true, some false, some false] := by decide +kernel
theorem kb_tup : (tyNames.map fun t => kitB "tuple" t.toString) = [some false, some false, some false, some true, some false] := by decide +kernel
theorem kb_lst : (tyNames.map fun t => kitB "list" t.toString) = [some false, some false, some false, some false, some true] := by decide +kernel
theorem kb_all {d : D} {t : Str} {b : Bool} (ht : t ∈ tyNames) (h : isiD d t = some b) : kitB (tyOfD d) t.toString = some b := by
  have cases5 : t = "int" ∨ t = "bool" ∨ t = "str" ∨ t = "tuple" ∨ t = "list" := by simpa [tyNames] using ht
  have k1 := kb_int
  have k2 := kb_bool
  have k3 := kb_non
  have k4 := kb_str
  have k5 := kb_tup
  have k6 := kb_lst
  simp only [tyNames, List.map_cons, List.map_nil, List.cons.injEq, and_true] at k1 k2 k3 k4 k5 k6
  cases d <;> first | cases h; done | skip
  all_goals (rcases cases5 with rfl | rfl | rfl | rfl | rfl <;> (simp only [isiD] at h; cases h; simp only [tyOfD]; first | exact k1.1 | exact k1.2.1 | exact k1.2.2.1 | exact k1.2.2.2.1 | exact k1.2.2.2.2 | exact k2.1 | exact k2.2.1 | exact k2.2.2.1 | exact k2.2.2.2.1 | exact k2.2.2.2.2 | exact k3.1 | exact k3.2.1 | exact k3.2.2.1 | exact k3.2.2.2.1 | exact k3.2.2.2.2 | exact k4.1 | exact k4.2.1 | exact k4.2.2.1 | exact k4.2.2.2.1 | exact k4.2.2.2.2 | exact k5.1 | exact k5.2.1 | exact k5.2.2.1 | exact k5.2.2.2.1 | exact k5.2.2.2.2 | exact k6.1 | exact k6.2.1 | exact k6.2.2.1 | exact k6.2.2.2.1 | exact k6.2.2.2.2))
section
variable {α β γ : Type} {X : Cx} {hx : HX} {W : WX} {C : Cxt} {g : G} {σ : L2.St} {A B : Ab} {H H1 : Hp} {e : E}
theorem lk_ty {S : Sm g A σ H} {d : D} {v : V} {t : Str} {b : Bool} (h : Lk g A.F H d v) (hi : isiD d t = some b) : TyX g.K H v (.type (tyOfD d)) := by
  cases d with
  | non => obtain rfl := lk_non h; exact .base .non
  | bl b => obtain rfl := lk_bl h; exact .base (.bl b)
  | int i => obtain rfl := lk_int h; exact .base (.int i)
  | str z => obtain ⟨rfl, _⟩ := lk_str h; exact .base (.str z)
  | tup ds =>
    obtain ⟨a, xs, rfl, h1, _⟩ := lk_tup h
    rcases S.sqT h1 with (q | ⟨o, q⟩) | ⟨o, its, n, q, c, _⟩
    · exact .base (.tup q)
    · exact .fTuple q
    · exact .kTuple q c
  | lst ds =>
    obtain ⟨a, xs, rfl, h1, _⟩ := lk_lst h
    exact .base (.lst h1)
  | _ => cases hi
/-- isinstance(x, t), x a value or the handled exception -/
def rIs (X : Cx) (hx : HX) : List V → Hp → VK → Prop := fun xs H Q => ∃ (x c : V) (cv t : Value) (b : Bool), xs = [x, c] ∧ ClsV c cv ∧ PySem.W.kitOne X.K t cv = some b ∧ Q (.bl b) H ∧ (TyX X.K H x t ∨ ∃ a D, hx.1 = some (a, D, none) ∧ x = .ref a ∧ t = .ref D ∧ ExcC X.K D)
theorem call_is (hh : HxOk X hx) : CallR X (.builtin "isinstance") (rIs X hx) := by
  intro pins s σ H xs us Q I r h
  obtain ⟨x, c, cv, t, b, e, hc, hk, q, hq⟩ := h
  subst e
  rcases hq with ty | ⟨a, D, ha, rfl, rfl, ec⟩
  · exact call_isi pins s σ H [x, c] us Q I r ⟨x, c, t, cv, b, rfl, hc, ty, hk, q⟩
  · obtain ⟨oe, hp, hz, vs, hv⟩ := hh a D none ha
    obtain ⟨u1, u2, rfl, r1, r2⟩ := vals2 r
    obtain rfl : u1 = Value.ref a := r1
    obtain rfl := hc.eq r2
    have hget := (I.pin (a, oe) (List.mem_append_left _ hp)).1
    have J : PySem.W.InstAt s.heap a oe D none := by
      cases oe
      obtain ⟨z1, z2⟩ := hz
      dsimp only at z1 z2 hv
      subst z1 z2 hv
      exact ⟨hget, rfl, rfl, trivial⟩
    have kx := PySem.W.handS_kitx_exc (x := a) (ox := oe) ec.hg ec.hk ec.hs ec.hd ec.ha ec.hn ec.ht ec.hm
    exact PySem.W.kia_one kx I.kIn J hk (fun z => nomatch z) fun tk => ⟨.bl b, H, I.kept (t' := tk) fun _ _ z => z, rfl, q⟩
theorem isi_bi {a : E} {t : Str} {p q p1 : Pos} : den C (.bi "isinstance" [a, .glb t p1] p q) = mkV (isiM C (den C a) t) := rfl
theorem pe_isi {a : E} {t : Str} {p q p1 : Pos} (hh : HxOk X hx) (hg : Gl X "isinstance") (hm : X.mg "isinstance" = none) (ha : DOk X hx W C a) (hs : isStar a = false) {c : V} (hc : PE X (.Name t p1) (tC c)) :
    PE X (toX (.bi "isinstance" [a, .glb t p1] p q)) (tCB (rIs X hx) (tCons (RdA (gOf X hx) W (den C a).a) (tCons (tC c) tNil))) :=
  pe_callB (call_is hh) hg hm PyProof.Rows.boot_isinstance (pa_cons ha.a (pa_cons hc pa_nil) (star_each hs _ _)) (by decide) (by decide) (star_each hs _ _) rfl
theorem dok_isiT {a : E} {t : Str} {p q p1 : Pos} (hh : HxOk X hx) (hg : Gl X "isinstance") (hm : X.mg "isinstance" = none) (ha : DOk X hx W C a) (hs : isStar a = false) (hc : PE X (.Name t p1) (tC (.ty t.toString)))
    (ht : t ∈ tyNames) (hcl : C.cls t = false) : DOk X hx W C (.bi "isinstance" [a, .glb t p1] p q) := by
  refine dok_V isi_bi (.inl rfl) (PE.weak (pe_isi hh hg hm ha hs hc) fun σ H Q ⟨A, S, q⟩ => ⟨A, S, (Go.split q).mono fun x B H1 st q1 v r => ?_⟩)
  rw [if_neg (by rw [hcl]; decide)] at q1
  cases e : x.getO B.env with
  | none => rw [e] at q1; exact q1.elim
  | some o =>
    rw [e] at q1
    cases e2 : frzO o with
    | none =>
      have q2 : Go (gOf X hx) W σ B H1 (match frzO o with
        | some d => (opt (isiD d t)).bind (fun t => constD (.bl t)) B.env
        | none => .st) (KV (gOf X hx) A H Q) := q1
      rw [e2] at q2; exact q2.elim
    | some d =>
      have q2 : Go (gOf X hx) W σ B H1 (match frzO o with
        | some d => (opt (isiD d t)).bind (fun t => constD (.bl t)) B.env
        | none => .st) (KV (gOf X hx) A H Q) := q1
      rw [e2] at q2
      obtain ⟨b, e3, q3⟩ := Go.optB q2
      obtain ⟨L, ow⟩ := r.mono (.refl st.sim) e
      have l := st.sim.lkO ow e2
      exact ⟨v, .ty t.toString, .type t.toString, .type (tyOfD d), b, rfl, .ty _, kit_ty (kb_all ht e3), aft_bl st.sim (KV.const st q3), .inl (lk_ty (S := st.sim) l e3)⟩
theorem dok_isiC {a : E} {t : Str} {p q p1 : Pos} {Ct : Addr} (hh : HxOk X hx) (hg : Gl X "isinstance") (hm : X.mg "isinstance" = none) (ha : DOk X hx W C a) (hs : isStar a = false) (hc : PE X (.Name t p1) (tC (.ref Ct)))
    (hcl : C.cls t = true) (hex : ∀ x D, C.cls x = true → X.mg x = some (.ref D) → ExcC X.K D ∧ PySem.W.kitOne X.K (.ref D) (.ref Ct) = some (C.sub x t)) :
    DOk X hx W C (.bi "isinstance" [a, .glb t p1] p q) := by
  refine dok_V isi_bi (.inl rfl) (PE.weak (pe_isi hh hg hm ha hs hc) fun σ H Q ⟨A, S, q⟩ => ⟨A, S, (Go.split q).mono fun x B H1 st q1 v r => ?_⟩)
  rw [if_pos hcl] at q1
  cases e : x.getO B.env with
  | none => rw [e] at q1; exact q1.elim
  | some o =>
    rw [e] at q1
    cases o with
    | exc c arg =>
      cases arg with
      | some _ => exact q1.elim
      | none =>
        obtain ⟨L, ow⟩ := r.mono (.refl st.sim) e
        have q1 : Go (gOf X hx) W σ B H1 (if C.cls c = true then R.ok (.frz (.bl (C.sub c t))) B.env else .st) (KV (gOf X hx) A H Q) := q1
        cases hcc : C.cls c with
        | false => rw [hcc, if_neg (by decide)] at q1; exact q1.elim
        | true =>
        rw [hcc, if_pos rfl] at q1
        obtain ⟨_, b, D, d, h1, rfl, h3, h4⟩ := ow
        have h4 : d = none := h4
        subst h4
        obtain ⟨ec, hk⟩ := hex c D hcc h3
        exact ⟨.ref b, .ref Ct, .ref Ct, .ref D, C.sub c t, rfl, .own Ct, hk, aft_bl st.sim (KV.const st q1), .inr ⟨b, D, h1, rfl, rfl, ec⟩⟩
    | _ => exact q1.elim
/-! ### range -/
theorem rng_walk {lo hi : Int} {ds : List D} (h : rangeD lo hi 1 = some ds) : (-(2 ^ 60) ≤ lo ∧ lo < 2 ^ 60 ∧ -(2 ^ 60) ≤ hi ∧ hi < 2 ^ 60) ∧ ds = (List.range (hi - lo).toNat).map fun (k : Nat) => D.int (lo + (k : Int)) := by
  unfold rangeD at h
  split at h
  · rename_i c
    simp only [Bool.and_eq_true, decide_eq_true_eq] at c
    rw [if_pos rfl] at h
    cases h
    exact ⟨⟨c.1.1.1, c.1.1.2, c.1.2, c.2⟩, rfl⟩
  · cases h
theorem len_two {α : Type} {l : List α} (h : l.length = 2) : ∃ a b, l = [a, b] := match l, h with
  | [a, b], _ => ⟨a, b, rfl⟩
theorem asM_len : ∀ {es : List Den} {s s' : Env} {as : List Z.A}, asM es s = .ok as s' → as.length = es.length
  | [], s, s', as, h => by cases h; rfl
  | e :: r, s, s', as, h => by
    have h : (M.bind e.a fun a => (asM r).bind fun as => M.pure (a :: as)) s = .ok as s' := h
    unfold M.bind at h
    cases e1 : e.a s with
    | ok a s1 =>
      rw [e1] at h
      dsimp only at h
      cases e2 : asM r s1 with
      | ok as' s2 =>
        rw [e2] at h
        cases h
        simp [asM_len e2]
      | ex x s2 => rw [e2] at h; cases h
      | st => rw [e2] at h; cases h
    | ex x s1 => rw [e1] at h; cases h
    | st => rw [e1] at h; cases h
theorem gets_len {s : Env} : ∀ {as : List Z.A} {ds : List D}, gets s as = some ds → ds.length = as.length
  | [], ds, h => by
    unfold gets at h
    rw [List.mapM_nil] at h
    cases h; rfl
  | a :: r, ds, h => by
    obtain ⟨d, ds', rfl, _, h2⟩ := gets_cons h
    simp [gets_len h2]
/-- the arguments of a range -/
theorem rng_args {es : List E} {H : Hp} {Q : L2.St → Hp → (It → Hp → Prop) → Prop} {R : It → Hp → Prop} {A : Ab} (q : Go (gOf X hx) W σ A H (walkM "range" (dens C es) A.env) fun ds B H' => ∀ J, Walked (gOf X hx) J B.F ds → R J H') :
    Go (gOf X hx) W σ A H (asM (dens C es) A.env) fun as B H1 => ∀ vs, RepAs (gOf X hx) σ B as vs → ∃ ds xs, ds.length = es.length ∧ Lks (gOf X hx) B.F H1 ds vs ∧ rngD ds = some xs ∧ ∀ J, Walked (gOf X hx) J B.F xs → R J H1 := by
  have q : Go (gOf X hx) W σ A H ((many (asM (dens C es)) fun ds => opt (rngD ds)) A.env) fun ds B H' => ∀ J, Walked (gOf X hx) J B.F ds → R J H' := q
  refine (Go.know (fun as s' e => (asM_len e).trans (dens_len es)) (Go.many q)).mono fun as B H1 st ⟨hl, ds, e1, q1⟩ vs r => ?_
  obtain ⟨xs, e2, q2⟩ := Go.opt st.sim q1
  exact ⟨ds, xs, (gets_len e1).trans hl, r.later (.refl st.sim) e1, e2, q2⟩
theorem dok_range1 {a : E} {p q : Pos} (hg : Gl X "range") (hm : X.mg "range" = none) (ha : DOk X hx W C a) (hs : isStar a = false) : DOk X hx W C (.bi "range" [a] p q) := by
  refine dok_I (it := walkM "range" [den C a]) (w := (walkM "range" [den C a]).bind fun ds => M.pure (.val (.lst ds))) rfl rfl fun tg => ?_
  have hall : [a].all (fun e => !isStar e) = true := by simp [hs]
  have p1 := pi_range1 (tg := tg) (p := p) (pos := q) hg hm (pa_as (hx := hx) (W := W) (C := C) (es := [a]) hall fun e he => by
    have e1 : e = a := by simpa using he
    rw [e1]; exact ha.a) (by show starEach [toX a] X.env = _; rw [star_each hs] <;> rfl)
  refine ⟨fun pins s σ H R I ⟨A, S, q⟩ => p1.run pins s σ H R I ⟨A, S, (rng_args (C := C) (es := [a]) (Q := fun _ _ _ => True) q).mono fun as B H1 st q1 vs r => ?_⟩⟩
  obtain ⟨ds, xs, hl, l, e2, q2⟩ := q1 vs r
  obtain ⟨d, rfl⟩ : ∃ d, ds = [d] := List.length_eq_one_iff.mp hl
  obtain ⟨v, rfl, l1⟩ := lks1 l
  cases d with
  | int n =>
    obtain rfl := lk_int l1
    obtain ⟨b, rfl⟩ := rng_walk (show rangeD 0 n 1 = some xs from e2)
    refine ⟨n, rfl, by omega, by omega, q2 _ ?_⟩
    rw [Int.sub_zero]
    exact walk_rng
  | _ => cases e2
theorem dok_range2 {a b : E} {p q : Pos} (hg : Gl X "range") (hm : X.mg "range" = none) (ha : DOk X hx W C a) (hs : isStar a = false) (hb : DOk X hx W C b) (hsb : isStar b = false) : DOk X hx W C (.bi "range" [a, b] p q) := by
  refine dok_I (it := walkM "range" [den C a, den C b]) (w := (walkM "range" [den C a, den C b]).bind fun ds => M.pure (.val (.lst ds))) rfl rfl fun tg => ?_
  have hall : [a, b].all (fun e => !isStar e) = true := by simp [hs, hsb]
  have p1 := pi_range2 (tg := tg) (p := p) (pos := q) hg hm (pa_as (hx := hx) (W := W) (C := C) (es := [a, b]) hall fun e he => by
    have e1 : e = a ∨ e = b := by simpa using he
    rcases e1 with rfl | rfl
    · exact ha.a
    · exact hb.a) (by show starEach [toX a, toX b] X.env = _; rw [star_each hs, star_each hsb] <;> rfl) (by show starEach [toX b] X.env = _; rw [star_each hsb] <;> rfl)
  refine ⟨fun pins s σ H R I ⟨A, S, q⟩ => p1.run pins s σ H R I ⟨A, S, (rng_args (C := C) (es := [a, b]) (Q := fun _ _ _ => True) q).mono fun as B H1 st q1 vs r => ?_⟩⟩
  obtain ⟨ds, xs, hl, l, e2, q2⟩ := q1 vs r
  obtain ⟨d1, d2, rfl⟩ : ∃ d1 d2, ds = [d1, d2] := len_two hl
  obtain ⟨v, w, rfl, l1, l2⟩ := lks2 l
  cases d1 with
  | int i =>
    cases d2 with
    | int n =>
      obtain rfl := lk_int l1
      obtain rfl := lk_int l2
      obtain ⟨b, rfl⟩ := rng_walk (show rangeD i n 1 = some xs from e2)
      exact ⟨i, n, rfl, ⟨by omega, by omega, by omega, by omega⟩, q2 _ walk_rng⟩
    | _ => cases e2
  | _ => cases e2
end
end Z
end

section
set_option Elab.async false
set_option linter.all false
set_option maxRecDepth 100000
set_option maxHeartbeats 1000000
/-! ZCall: what a call is handed, what comes back. -/
namespace Z
open PySem L2
def argFp (fp : Nat → List Addr) (as : List A) (j : Nat) : List Addr := match as[j]? with
  | some (.plc i) => fp i
  | _ => []
theorem argFp_plc {fp : Nat → List Addr} {as : List A} {j i : Nat} (h : as[j]? = some (.plc i)) : argFp fp as j = fp i := by unfold argFp; rw [h]
theorem argFp_mem {fp : Nat → List Addr} {as : List A} {j : Nat} {a : Addr} (h : a ∈ argFp fp as j) : ∃ i, as[j]? = some (.plc i) ∧ a ∈ fp i := by
  unfold argFp at h
  split at h
  · exact ⟨_, by assumption, h⟩
  · simp at h
theorem plcs_mem : ∀ {as : List A} {j i : Nat}, as[j]? = some (.plc i) → i ∈ plcs as
  | [], _, _, h => by simp at h
  | .val d :: r, 0, i, h => by simp at h
  | .plc k :: r, 0, i, h => by
    have e : k = i := by simpa using h
    rw [e]
    exact List.mem_cons_self
  | .val d :: r, j + 1, i, h => plcs_mem (as := r) (j := j) (by simpa using h)
  | .plc k :: r, j + 1, i, h => List.mem_cons_of_mem _ (plcs_mem (as := r) (j := j) (by simpa using h))
theorem plc_inj : ∀ {as : List A} {j k i : Nat}, (plcs as).Nodup → as[j]? = some (.plc i) → as[k]? = some (.plc i) → j = k
  | [], _, _, _, _, h, _ => by simp at h
  | a :: r, 0, 0, _, _, _, _ => rfl
  | .val d :: r, 0, k + 1, i, _, h, _ => by simp at h
  | .val d :: r, j + 1, 0, i, _, _, h => by simp at h
  | .plc q :: r, 0, k + 1, i, nd, h, h' => by
    have e : q = i := by simpa using h
    subst e
    exact absurd (plcs_mem (as := r) (j := k) (by simpa using h')) (List.nodup_cons.mp nd).1
  | .plc q :: r, j + 1, 0, i, nd, h, h' => by
    have e : q = i := by simpa using h'
    subst e
    exact absurd (plcs_mem (as := r) (j := j) (by simpa using h)) (List.nodup_cons.mp nd).1
  | .val d :: r, j + 1, k + 1, i, nd, h, h' => congrArg (· + 1) (plc_inj (as := r) nd (by simpa using h) (by simpa using h'))
  | .plc q :: r, j + 1, k + 1, i, nd, h, h' => congrArg (· + 1) (plc_inj (as := r) (List.nodup_cons.mp nd).2 (by simpa using h) (by simpa using h'))
section
variable {g : G} {σ : L2.St} {B : Ab} {H : Hp}
theorem mapO_cons {s : Env} {a : Z.A} {as : List Z.A} {os : List O} (h : (a :: as).mapM (Z.A.getO s) = some os) : ∃ o os', os = o :: os' ∧ a.getO s = some o ∧ as.mapM (Z.A.getO s) = some os' := by
  rw [List.mapM_cons] at h
  cases e : a.getO s with
  | none => rw [e] at h; cases h
  | some d =>
    rw [e] at h
    cases e2 : as.mapM (Z.A.getO s) with
    | none => rw [e2] at h; cases h
    | some ds' =>
      rw [e2] at h
      cases h
      exact ⟨d, ds', rfl, rfl, rfl⟩
structure ArgsAt (g : G) (σ : L2.St) (B : Ab) (as : List Z.A) (os : List O) (vs : List V) : Prop where
  lo : os.length = as.length
  lv : vs.length = as.length
  at' : ∀ (j : Nat) (a : Z.A), as[j]? = some a → ∃ v o, vs[j]? = some v ∧ os[j]? = some o ∧ RepA g σ B a v ∧ a.getO B.env = some o
theorem args_at : ∀ {as : List Z.A} {os : List O} {vs : List V}, RepAs g σ B as vs → as.mapM (Z.A.getO B.env) = some os → ArgsAt g σ B as os vs
  | [], os, vs, h, e => by
    have h' : vs = [] := h
    subst h'
    have e' : os = [] := by
      rw [List.mapM_nil] at e
      cases e; rfl
    subst e'
    exact ⟨rfl, rfl, fun j a z => by simp at z⟩
  | a :: r, os, vs, ⟨v, vs', ev, h1, h2⟩, e => by
    obtain ⟨o, os', rfl, e1, e2⟩ := mapO_cons e
    subst ev
    have ih := args_at h2 e2
    refine ⟨by simp [ih.lo], by simp [ih.lv], fun j b hb => ?_⟩
    cases j with
    | zero =>
      have e3 : a = b := by simpa using hb
      subst e3
      exact ⟨v, o, rfl, rfl, h1, e1⟩
    | succ j =>
      obtain ⟨v', o', q1, q2, q3, q4⟩ := ih.at' j b (by simpa using hb)
      exact ⟨v', o', by simpa using q1, by simpa using q2, q3, q4⟩
abbrev cAb (B : Ab) (as : List Z.A) (os : List O) : Ab := ⟨B.F, os.map some, argFp B.fp as⟩
theorem sim_args (S : Sm g B σ H) {as : List Z.A} {os : List O} {vs : List V} (h : ArgsAt g σ B as os vs) (nd : (plcs as).Nodup) : Sm g (cAb B as os) (vs.map some) H := by
  have asj : ∀ {j : Nat} {o : O}, (os.map some)[j]? = some (some o) → ∃ a, as[j]? = some a := fun {j o} e => by
    have hj : j < os.length := by
      have := (List.getElem?_eq_some_iff.mp e).1
      simpa using this
    rw [h.lo] at hj
    exact ⟨_, List.getElem?_eq_getElem hj⟩
  refine ⟨S.sub, S.pl, S.ls, S.scu, by simp [h.lo, h.lv], fun j o e => ?_, fun j e => ?_, fun j k a h1 h2 => ?_⟩
  · obtain ⟨a, ha⟩ := asj e
    obtain ⟨v, o', q1, q2, q3, q4⟩ := h.at' j a ha
    have e' : (os.map some)[j]? = some (some o) := e
    rw [List.getElem?_map, q2] at e'
    cases e'
    refine ⟨v, by rw [List.getElem?_map, q1] <;> rfl, ?_⟩
    show Ow g B.F H o v (argFp B.fp as j)
    cases a with
    | val d =>
      cases q4
      have z : argFp B.fp as j = [] := by unfold argFp; rw [ha]
      rw [z]
      exact ⟨q3, rfl⟩
    | plc i =>
      rw [argFp_plc ha]
      obtain ⟨w, h1, h2⟩ := S.slot i o (getO_some q4)
      have q3 : σ[i]? = some (some v) := q3
      rw [q3] at h1
      cases h1
      exact h2
  · show argFp B.fp as j = []
    unfold argFp
    cases ha : as[j]? with
    | none => rfl
    | some a =>
      obtain ⟨v, o', q1, q2, q3, q4⟩ := h.at' j a ha
      exact absurd (by show (os.map some)[j]? = some (some o'); rw [List.getElem?_map, q2] <;> rfl) (e o')
  · obtain ⟨i, e1, m1⟩ := argFp_mem h1
    obtain ⟨i', e2, m2⟩ := argFp_mem h2
    have := S.dis i i' a m1 m2
    subst this
    exact plc_inj nd e1 e2
/-- which lent argument a variable is -/
def lentAt : List Z.A → List Bool → Nat → Option Nat
  | .plc k :: as, true :: fs, i => if k = i then some 0 else (lentAt as fs i).map (· + 1)
  | _ :: as, _ :: fs, i => (lentAt as fs i).map (· + 1)
  | _, _, _ => none
theorem lentAt_some : ∀ {as : List Z.A} {fs : List Bool} {i j : Nat}, lentAt as fs i = some j → as[j]? = some (.plc i) ∧ fs[j]? = some true
  | [], fs, i, j, h => by cases fs <;> simp [lentAt] at h
  | a :: as, [], i, j, h => by cases a <;> simp [lentAt] at h
  | .val d :: as, f :: fs, i, j, h => by
    simp only [lentAt, Option.map_eq_some_iff] at h
    obtain ⟨k, hk, rfl⟩ := h
    simpa using lentAt_some hk
  | .plc k :: as, false :: fs, i, j, h => by
    simp only [lentAt, Option.map_eq_some_iff] at h
    obtain ⟨k, hk, rfl⟩ := h
    simpa using lentAt_some hk
  | .plc k :: as, true :: fs, i, j, h => by
    simp only [lentAt] at h
    by_cases e : k = i
    · rw [if_pos e] at h
      cases h
      simp [e]
    · rw [if_neg e, Option.map_eq_some_iff] at h
      obtain ⟨k', hk, rfl⟩ := h
      simpa using lentAt_some hk
theorem lentAt_none : ∀ {as : List Z.A} {fs : List Bool} {i : Nat}, lentAt as fs i = none → ∀ j : Nat, as[j]? = some (Z.A.plc i) → fs[j]? ≠ some true
  | [], _, _, _, j, h => by simp at h
  | a :: as, [], _, _, j, h => by simp
  | .val d :: as, f :: fs, i, h, j, hj => by
    simp only [lentAt, Option.map_eq_none_iff] at h
    cases j with
    | zero => simp at hj
    | succ j => simpa using lentAt_none h j (by simpa using hj)
  | .plc k :: as, false :: fs, i, h, j, hj => by
    simp only [lentAt, Option.map_eq_none_iff] at h
    cases j with
    | zero => simp
    | succ j => simpa using lentAt_none h j (by simpa using hj)
  | .plc k :: as, true :: fs, i, h, j, hj => by
    simp only [lentAt] at h
    by_cases e : k = i
    · rw [if_pos e] at h; cases h
    · rw [if_neg e, Option.map_eq_none_iff] at h
      cases j with
      | zero =>
        have : k = i := by simpa using hj
        exact absurd this e
      | succ j => simpa using lentAt_none h j (by simpa using hj)
structure LendAt (as : List Z.A) (outs : List O) (fs : List Bool) (s s' : Env) : Prop where
  len : s'.length = s.length
  non : ∀ i, lentAt as fs i = none → s'[i]? = s[i]?
  som : ∀ i j, lentAt as fs i = some j → i < s.length → ∃ o, outs[j]? = some o ∧ s'[i]? = some (some o)
theorem lend_at : ∀ {as : List Z.A} {outs : List O} {fs : List Bool} {s s' : Env}, (plcs as).Nodup → lendBack as outs fs s = some s' → LendAt as outs fs s s'
  | [], outs, fs, s, s', _, h => by
    cases outs with
    | nil =>
      have e : s = s' := by simpa [lendBack] using h
      subst e
      exact ⟨rfl, fun _ _ => rfl, fun i j e => by cases fs <;> simp [lentAt] at e⟩
    | cons o r => cases fs <;> simp [lendBack] at h
  | a :: as, [], fs, s, s', _, h => by cases a <;> cases fs <;> simp [lendBack] at h
  | a :: as, o :: os, [], s, s', nd, h => by
    have h' : lendBack as os [] s = some s' := by cases a <;> simpa [lendBack] using h
    have nd' : (plcs as).Nodup := by
      cases a with
      | val d => exact nd
      | plc k => exact (List.nodup_cons.mp nd).2
    have ih := lend_at nd' h'
    refine ⟨ih.len, fun i _ => ih.non i ?_, fun i j e => by cases a <;> simp [lentAt] at e⟩
    cases as with
    | nil => rfl
    | cons b r => cases b <;> rfl
  | .val d :: as, o :: os, f :: fs, s, s', nd, h => by
    have h' : lendBack as os fs s = some s' := by cases f <;> simpa [lendBack] using h
    have ih := lend_at (as := as) nd h'
    refine ⟨ih.len, fun i e => ih.non i ?_, fun i j e hi => ?_⟩
    · simpa only [lentAt, Option.map_eq_none_iff] using e
    · simp only [lentAt, Option.map_eq_some_iff] at e
      obtain ⟨k, hk, rfl⟩ := e
      simpa using ih.som i k hk hi
  | .plc k :: as, o :: os, false :: fs, s, s', nd, h => by
    have h' : lendBack as os fs s = some s' := by simpa [lendBack] using h
    have ih := lend_at (as := as) (List.nodup_cons.mp nd).2 h'
    refine ⟨ih.len, fun i e => ih.non i ?_, fun i j e hi => ?_⟩
    · simpa only [lentAt, Option.map_eq_none_iff] using e
    · simp only [lentAt, Option.map_eq_some_iff] at e
      obtain ⟨k, hk, rfl⟩ := e
      simpa using ih.som i k hk hi
  | .plc k :: as, o :: os, true :: fs, s, s', nd, h => by
    have h' : lendBack as os fs (s.set k (some o)) = some s' := by simpa [lendBack] using h
    have nd' := List.nodup_cons.mp nd
    have ih := lend_at (as := as) nd'.2 h'
    refine ⟨by rw [ih.len, List.length_set], fun i e => ?_, fun i j e hi => ?_⟩
    · simp only [lentAt] at e
      by_cases q : k = i
      · rw [if_pos q] at e; cases e
      · rw [if_neg q, Option.map_eq_none_iff] at e
        rw [ih.non i e, List.getElem?_set_ne q]
    · simp only [lentAt] at e
      by_cases q : k = i
      · rw [if_pos q] at e
        cases e
        subst q
        have hn : lentAt as fs k = none := by
          cases z : lentAt as fs k with
          | none => rfl
          | some j => exact absurd (plcs_mem (lentAt_some z).1) nd'.1
        exact ⟨o, rfl, by rw [ih.non k hn, List.getElem?_set_self hi]⟩
      · rw [if_neg q, Option.map_eq_some_iff] at e
        obtain ⟨j', hj, rfl⟩ := e
        simpa using ih.som i j' hj (by simpa using hi)
/-- behind a call: the lent variables have what the def left -/
theorem call_back {as : List Z.A} {os outs : List O} {vs : List V} {fl : List Bool} {B0 : Ab} {H' : Hp} {env' : Env} (S : Sm g B σ H) (h : ArgsAt g σ B as os vs) (nd : (plcs as).Nodup) (st : Step g (cAb B as os) H B0 (vs.map some) H') (e0 : B0.env = outs.map some)
    (hl : lendBack as outs fl B.env = some env') (hk : ∀ (j i : Nat), as[j]? = some (Z.A.plc i) → fl[j]? ≠ some true → B.fp i = []) :
    ∃ B' : Ab, B'.env = env' ∧ B'.F = B0.F ∧ Step g B H B' σ H' ∧ ∀ L : List Addr, Apt (cAb B as os) H B0 L → Apt B H B' L := by
  have la := lend_at nd hl
  have wA : ∀ {a : Addr}, wf (argFp B.fp as) a → wf B.fp a := fun {a} ⟨j, hj⟩ => by
    obtain ⟨i, _, hi⟩ := argFp_mem hj
    exact ⟨i, hi⟩
  -- what is not lent is not the call's
  have apart : ∀ (i : Nat), lentAt as fl i = none → ∀ a, a ∈ B.fp i → ¬ wf (argFp B.fp as) a := fun i hn a ha ⟨j, hj⟩ => by
    obtain ⟨i', e1, m1⟩ := argFp_mem hj
    have e := S.dis i i' a ha m1
    subst e
    rw [hk j i e1 (lentAt_none hn j e1)] at ha
    simp at ha
  have isO : ∀ (i : Nat) (a : Addr), a ∈ B.fp i → H a ≠ none := fun i a ha => by
    by_cases q : ∃ o, B.env[i]? = some (some o)
    · obtain ⟨o, ho⟩ := q
      obtain ⟨v, _, h2⟩ := S.slot i o ho
      exact (h2.at ha).2
    · rw [S.emp i fun o e => q ⟨o, e⟩] at ha; simp at ha
  have cross : ∀ (i j k : Nat) a, lentAt as fl i = some j → lentAt as fl k = none → a ∈ B0.fp j → a ∈ B.fp k → False := fun i j k a h1 h2 m1 m2 => by
    rcases st.sb a ⟨j, m1⟩ with z | z
    · exact apart k h2 a m2 z
    · exact isO k a m2 z
  let fp' : Nat → List Addr := fun i => match lentAt as fl i with
    | some j => B0.fp j
    | none => B.fp i
  have fs : ∀ {i j : Nat}, lentAt as fl i = some j → fp' i = B0.fp j := fun {i j} e => by show (match lentAt as fl i with | some j => B0.fp j | none => B.fp i) = _; rw [e]
  have fn : ∀ {i : Nat}, lentAt as fl i = none → fp' i = B.fp i := fun {i} e => by show (match lentAt as fl i with | some j => B0.fp j | none => B.fp i) = _; rw [e]
  have inb : ∀ {i j : Nat}, lentAt as fl i = some j → i < B.env.length := fun {i j} e => by
    obtain ⟨v, o, _, _, _, q⟩ := h.at' j _ (lentAt_some e).1
    exact (List.getElem?_eq_some_iff.mp (getO_some q)).1
  refine ⟨⟨B0.F, env', fp'⟩, rfl, rfl, ⟨st.fr.mono fun x hx => .inl (wA hx), ⟨st.sim.sub, st.sim.pl, st.sim.ls, st.sim.scu, by show env'.length = _; rw [la.len]; exact S.len, fun i o e => ?_, fun i e => ?_, fun i k a m1 m2 => ?_⟩, fun a ha => ?_⟩, fun L ap => ⟨fun a ha z => ?_, fun a ha => (ap.2 a ha).imp wA id⟩⟩
  · have e : env'[i]? = some (some o) := e
    show ∃ v, σ[i]? = some (some v) ∧ Ow g B0.F H' o v (fp' i)
    cases q : lentAt as fl i with
    | some j =>
      obtain ⟨o', h1, h2⟩ := la.som i j q (inb q)
      rw [h2] at e
      cases e
      obtain ⟨v, o2, h3, _, h5, _⟩ := h.at' j _ (lentAt_some q).1
      obtain ⟨w, h6, h7⟩ := st.sim.slot j o (by rw [e0, List.getElem?_map, h1] <;> rfl)
      rw [List.getElem?_map, h3] at h6
      cases h6
      exact ⟨v, h5, by rw [fs q]; exact h7⟩
    | none =>
      rw [la.non i q] at e
      obtain ⟨v, h1, h2⟩ := S.slot i o e
      exact ⟨v, h1, by rw [fn q]; exact h2.fr st.fr (apart i q)⟩
  · show fp' i = []
    cases q : lentAt as fl i with
    | some j =>
      obtain ⟨o', _, h2⟩ := la.som i j q (inb q)
      exact absurd h2 (e o')
    | none =>
      rw [fn q]
      refine S.emp i fun o z => e o ?_
      show env'[i]? = _
      rw [la.non i q]; exact z
  · have m1 : a ∈ fp' i := m1
    have m2 : a ∈ fp' k := m2
    cases q1 : lentAt as fl i with
    | some j =>
      rw [fs q1] at m1
      cases q2 : lentAt as fl k with
      | some j2 =>
        rw [fs q2] at m2
        have e := st.sim.dis j j2 a m1 m2
        subst e
        have e1 := (lentAt_some q1).1
        have e2 := (lentAt_some q2).1
        rw [e1] at e2
        simpa using e2
      | none => rw [fn q2] at m2; exact (cross i j k a q1 q2 m1 m2).elim
    | none =>
      rw [fn q1] at m1
      cases q2 : lentAt as fl k with
      | some j2 => rw [fs q2] at m2; exact (cross k j2 i a q2 q1 m2 m1).elim
      | none => rw [fn q2] at m2; exact S.dis i k a m1 m2
  · obtain ⟨i, hi⟩ := ha
    have hi : a ∈ fp' i := hi
    cases q : lentAt as fl i with
    | some j => rw [fs q] at hi; exact (st.sb a ⟨j, hi⟩).imp wA id
    | none => rw [fn q] at hi; exact .inl ⟨i, hi⟩
  · obtain ⟨i, hi⟩ := z
    have hi : a ∈ fp' i := hi
    cases q : lentAt as fl i with
    | some j => rw [fs q] at hi; exact ap.1 a ha ⟨j, hi⟩
    | none =>
      rw [fn q] at hi
      rcases ap.2 a ha with z | z
      · exact apart i q a hi z
      · exact isO i a hi z
theorem okLend_at : ∀ {as : List Z.A} {os : List O} {fs : List Bool}, okLend as os fs = true → ∀ (j i : Nat) o, as[j]? = some (Z.A.plc i) → fs[j]? ≠ some true → os[j]? = some o → ∃ c x, o = .exc c x
  | [], _, _, _, j, i, o, h, _, _ => by simp at h
  | .val d :: as, [], fs, h, _, _, _, _, _, e => by simp at e
  | .plc k :: as, [], fs, h, _, _, _, _, _, e => by simp at e
  | .val d :: as, u :: os, fs, h, j, i, o, h1, h2, h3 => by
    have h' : okLend as os fs.tail = true := by simpa [okLend] using h
    cases j with
    | zero => simp at h1
    | succ j => exact okLend_at h' j i o (by simpa using h1) (by cases fs <;> simp_all) (by simpa using h3)
  | .plc k :: as, u :: os, fs, h, j, i, o, h1, h2, h3 => by
    simp only [okLend, Bool.and_eq_true] at h
    cases j with
    | zero =>
      have e : u = o := by simpa using h3
      subst e
      have hf : fs.headD false = false := by
        cases fs with
        | nil => rfl
        | cons b r => cases b <;> simp_all
      rw [hf] at h
      cases u <;> first | exact ⟨_, _, rfl⟩ | simp at h
    | succ j => exact okLend_at h.2 j i o (by simpa using h1) (by cases fs <;> simp_all) (by simpa using h3)
end
end Z
end

section
set_option Elab.async false
set_option linter.all false
set_option maxRecDepth 100000
set_option maxHeartbeats 1000000
/-! ZFn: what a def promises; its call; the promise from its body. -/
namespace Z
open PySem L2
/-- room for k calls within one another -/
structure Rm (k : Nat) (A : Around) : Prop where
  dp : A.depth + 3 * k + 5 < recursionLimit
  un : A.units + 16 * k + 400 < cLine
theorem Rm.deeper {k : Nat} {A : Around} (r : Rm (k + 1) A) (env : PySem.Env) : Rm k (A.deeper env) :=
  ⟨by have := r.dp; show A.depth + 1 + 3 * k + 5 < _; omega, by have := r.un; show A.units + 3 + 16 * k + 400 < _; omega⟩
/-- a call's reading: F tells what comes of the arguments -/
def spZ (g : G) (F : List O → FR) : Sp := fun vs H Q E => ∃ (A0 : Ab) (os : List O), A0.env = os.map some ∧ Sm g A0 (vs.map some) H ∧ match F os with
  | .ok r outs => ∀ B H' v L, B.env = outs.map some → Step g A0 H B (vs.map some) H' → Ow g B.F H' r v L → Apt A0 H B L → Q v H'
  | .ex x outs => ∀ B H' d Cl, B.env = outs.map some → Step g A0 H B (vs.map some) H' → XO x d B.F → g.mg x.c = some (.ref Cl) → E (.ref Cl) d H'
  | .st => False
/-- is an exception handled: where its record stands -/
def Warm (hot : Bool) (A : Around) (outer : List PySem.Env) (H : Hp) (s : Shared) (hx : HX) (pn : List (Addr × Obj)) : Prop := match hot with
  | false => A.handled = none ∧ hx.1 = none ∧ pn = []
  | true => ∃ p D d, pn = [p] ∧ hx.1 = some (p.1, D, d) ∧ Zc (.ref D) d p.2 ∧ (∃ v, p.2.data = .fields v) ∧ L2H.Hot1 A p ∧ L2H.PinOk outer H s p
structure FnZ (P : Program) (w : World) (K : PySem.W.Frag) (mg : Str → Option Value) (base : Heap) (hot : Bool) (k : Nat) (f : Addr) (fd : FuncData) (ps : List Str) (F : List O → FR) : Prop where
  does : ∀ (A : Around) (outer : List PySem.Env) (s : Shared) (H : Hp) (args : Args) (us : List Value) (vs : List V) (Q : VK) (E : XK) (hx : HX) (pn : List (Addr × Obj)),
    Rm k A → A.guards = some [] → Warm hot A outer H s hx pn → Env0 P w K mg base A outer s H → BindsTo s fd args (ps.zip us) → Vals vs us → vs.length = ps.length → spZ ⟨K, mg, w, hx.1, hx.2⟩ F vs H Q E →
    codeAny (model P w) A (.call (.ref f) args) (CR (L2N.CX P w) outer P w H s Q E) s
/-- the caller's side of it -/
def WarmX (hot : Bool) (X : Cx) (hx : HX) : Prop := match hot with
  | false => X.calm = true ∧ hx.1 = none
  | true => ∃ p D d, p ∈ X.pn ∧ hx.1 = some (p.1, D, d) ∧ Zc (.ref D) d p.2 ∧ (∃ v, p.2.data = .fields v) ∧ L2H.Hot1 X.A p
section
variable {X : Cx} {hx : HX} {W : WX} {C : Cxt} {hot : Bool}
theorem warm_of {pins : List (Addr × Obj)} {σ : L2.St} {H : Hp} {s : Shared} (h : WarmX hot X hx) (I : L2.Inv X pins σ H s) : ∃ pn, Warm hot X.A X.stack H s hx pn := by
  cases hot with
  | false => exact ⟨[], I.ok.hd h.1, h.2, rfl⟩
  | true =>
    obtain ⟨p, D, d, hp, e, hz, hv, ht⟩ := h
    have P1 := I.pin p (List.mem_append_left _ hp)
    exact ⟨[p], p, D, d, rfl, e, hz, hv, ht, P1.1, P1.2.1, fun hm => (List.mem_cons.mp (I.stkSub p.1 hm)).elim P1.2.2.1 P1.2.2.2.1, P1.2.2.2.2⟩
theorem run_Z {k : Nat} {f : Addr} {fd : FuncData} {ps : List Str} {F : List O → FR} {pins : List (Addr × Obj)} {σ : L2.St} {H : Hp} {s : Shared} {Q : VK} {us : List Value} {vs : List V} (Fz : FnZ X.prog X.w X.K X.mg X.base hot k f fd ps F) (hr : Rm k X.A) (hg : X.A.guards = some [])
    (hw : WarmX hot X hx) (hb : Binds X.K fd ps []) (tk : L2N.Takes X W) (I : L2.Inv X pins σ H s) (r : Vals vs us) (hl : vs.length = ps.length) (h : spZ (gOf X hx) F vs H Q (WE W σ)) :
    wpAny (model X.prog X.w) X.A (call (.ref f) us) (EP X pins σ Q) X.xe s := by
  have hlu : us.length = ps.length := by rw [← r.length]; exact hl
  have b : BindsTo s fd ⟨us, []⟩ (ps.zip us) := by
    have := hb s us I.kIn (by rw [List.append_nil]; exact hlu)
    rwa [List.append_nil] at this
  obtain ⟨pn, wm⟩ := warm_of hw I
  have run := Fz.does X.A X.stack s H ⟨us, []⟩ us vs Q (WE W σ) hx pn hr hg wm I.env0 b r hl h
  refine wpAny_call (codeAny_mono run fun res s' hq => ?_)
  match res, hq with
  | .error e, hq => exact L2N.passAt tk σ pins H s e s' I hq
  | .ok (.ret u), hq => exact I.after hq
  | .ok .next, hq => exact hq.elim
  | .ok .brk, hq => exact hq.elim
  | .ok .cont, hq => exact hq.elim
/-- the arguments, lent or not -/
theorem pe_arg {e : E} (h : DOk X hx W C e) (f : Bool) : PE X (toX e) (RdA (gOf X hx) W (argM (den C e) f)) := by
  have pd : PE X (toX e) (RdA (gOf X hx) W ((den C e).d.bind fun d => M.pure (.val d))) := PE.weak (pe_dOf h.v) fun σ H Q ⟨A, S, q⟩ =>
    ⟨A, S, (Go.split q).mono fun d B H1 st q1 v r => Go.pure st.sim q1 v r⟩
  unfold argM
  cases hv : (den C e).var with
  | none => cases f <;> exact pd
  | some i =>
    cases f with
    | true => exact h.a
    | false =>
      refine ⟨fun pins s σ H Q I hq => ?_⟩
      obtain ⟨A, S, q⟩ := hq
      dsimp only at q
      have fin : Go (gOf X hx) W σ A H (((den C e).d.bind fun d => M.pure (Z.A.val d)) A.env) (fun a B H' => ∀ v, RepA (gOf X hx) σ B a v → Q v H') → wpAny (model X.prog X.w) X.A (eval (toX e) X.env) (EP X pins σ Q) X.xe s := fun q => pd.run pins s σ H Q I ⟨A, S, q⟩
      cases e1 : getO A.env i with
      | none => rw [e1] at q; exact fin q
      | some o =>
        rw [e1] at q
        cases o with
        | exc c a =>
          obtain ⟨v, h1, _⟩ := S.slot i _ (getO_some e1)
          exact (h.n i hv).run pins s σ H Q I ⟨v, h1, q A H rfl (.refl S) v h1⟩
        | _ => exact fin q
theorem pa_cs : ∀ {es : List E} {fs : List Bool}, es.all (fun e => !isStar e) = true → (∀ e ∈ es, DOk X hx W C e) → PA X (toXs es) (RdAs (gOf X hx) W (csM (dens C es) fs))
  | [], fs, _, _ => PA.weak pa_nil fun σ H Q ⟨A, S, q⟩ => Go.pure S q [] rfl
  | e :: r, fs, h, p => by
    simp only [List.all_cons, Bool.and_eq_true, Bool.not_eq_true'] at h
    have ih := pa_cs (fs := fs.tail) h.2 fun e' he => p e' (List.mem_cons_of_mem _ he)
    refine PA.weak (pa_cons (pe_arg (p e List.mem_cons_self) (fs.headD false)) ih (star_each h.1 _ _)) fun σ H Q ⟨A, S, q⟩ => ?_
    refine ⟨A, S, (Go.split q).mono fun a B H1 st q1 v r1 => ⟨B, st.sim, (Go.split q1).mono fun as D H2 st2 q2 vs r2 => ?_⟩⟩
    exact Go.pure st2.sim q2 (v :: vs) ⟨v, vs, rfl, r1.step st2, r2⟩
theorem RepAs.len {g : G} {σ : L2.St} {B : Ab} : ∀ {as : List Z.A} {vs : List V}, RepAs g σ B as vs → vs.length = as.length
  | [], vs, h => by have h' : vs = [] := h; rw [h'] <;> rfl
  | a :: r, vs, ⟨v, vs', e, _, h2⟩ => by rw [e]; simp [RepAs.len h2]
/-- the call itself, behind its arguments -/
theorem sp_call {g : G} {σ : L2.St} {A B : Ab} {H H1 : Hp} {x : Str} {as : List Z.A} {vs : List V} {Q : VK} (st : Step g A H B σ H1) (r : RepAs g σ B as vs) (q : Go g W σ B H1 (doCall C x as B.env) (KV g A H Q)) : spZ g (C.call x) vs H1 Q (WE W σ) := by
  unfold doCall at q
  by_cases nd : (plcs as).Nodup
  case neg => rw [if_neg (by simpa using nd)] at q; exact q.elim
  rw [if_pos (decide_eq_true nd)] at q
  cases e : as.mapM (Z.A.getO B.env) with
  | none => rw [e] at q; exact q.elim
  | some os =>
    rw [e] at q
    dsimp only at q
    cases ok : okLend as os (C.lent x) with
    | false => rw [ok, if_neg (by decide)] at q; exact q.elim
    | true =>
      rw [ok, if_pos rfl] at q
      have h := args_at r e
      have hk : ∀ (j i : Nat), as[j]? = some (Z.A.plc i) → (C.lent x)[j]? ≠ some true → B.fp i = [] := fun j i e1 e2 => by
        obtain ⟨v, o, h1, h2, h3, h4⟩ := h.at' j _ e1
        obtain ⟨c, a, rfl⟩ := okLend_at ok j i o e1 e2 h2
        obtain ⟨w, _, h6⟩ := st.sim.slot i _ (getO_some h4)
        exact h6.1
      refine ⟨cAb B as os, os, rfl, sim_args st.sim h nd, ?_⟩
      cases e2 : C.call x os with
      | st => rw [e2] at q; exact q.elim
      | ok u outs =>
        rw [e2] at q
        dsimp only at q
        intro B0 H' v L eB st0 ow ap
        cases e3 : lendBack as outs (C.lent x) B.env with
        | none => rw [e3] at q; exact q.elim
        | some env' =>
          rw [e3] at q
          obtain ⟨B', e4, e5, st', apt⟩ := call_back st.sim h nd st0 eB e3 hk
          exact q B' H' e4 st' v L (by rw [e5]; exact ow) ((apt L ap).back st)
      | ex u outs =>
        rw [e2] at q
        dsimp only at q
        intro B0 H' d Cl eB st0 xo hm
        cases e3 : lendBack as outs (C.lent x) B.env with
        | none => rw [e3] at q; exact q.elim
        | some env' =>
          rw [e3] at q
          obtain ⟨B', e4, e5, st', apt⟩ := call_back st.sim h nd st0 eB e3 hk
          exact q B' H' d Cl e4 st' (by rw [e5]; exact xo) hm
theorem csM_len : ∀ {es : List Den} {fs : List Bool} {s s' : Env} {as : List Z.A}, csM es fs s = .ok as s' → as.length = es.length
  | [], fs, s, s', as, h => by cases h; rfl
  | e :: r, fs, s, s', as, h => by
    have h : (M.bind (argM e (fs.headD false)) fun a => (csM r fs.tail).bind fun as => M.pure (a :: as)) s = .ok as s' := h
    unfold M.bind at h
    cases e1 : argM e (fs.headD false) s with
    | ok a s1 =>
      rw [e1] at h
      dsimp only at h
      cases e2 : csM r fs.tail s1 with
      | ok as' s2 =>
        rw [e2] at h
        cases h
        simp [csM_len e2]
      | ex x s2 => rw [e2] at h; cases h
      | st => rw [e2] at h; cases h
    | ex x s1 => rw [e1] at h; cases h
    | st => rw [e1] at h; cases h
theorem dok_call {k : Nat} {f : Addr} {fd : FuncData} {ps : List Str} {x : Str} {es : List E} {p q : Pos} (Fz : FnZ X.prog X.w X.K X.mg X.base hot k f fd ps (C.call x)) (hr : Rm k X.A) (hgd : X.A.guards = some [])
    (hw : WarmX hot X hx) (hb : Binds X.K fd ps []) (tk : L2N.Takes X W) (hg : Gl X x) (hm : X.mg x = some (.ref f)) (hk : PySem.W.keepIn X.K (.ref f) = true) (hdb : (x == ("__debug__" : Str)) = false)
    (hs : es.all (fun e => !isStar e) = true) (hl : es.length = ps.length) (h : ∀ e ∈ es, DOk X hx W C e) : DOk X hx W C (.call x es p q) := by
  refine dok_V (m := callM C x (dens C es)) rfl (.inl rfl) ⟨fun pins s σ H Q J hq => ?_⟩
  obtain ⟨A, S, qq⟩ := hq
  unfold callM at qq
  have args := (pa_cs (fs := C.lent x) hs h).run q pins s σ H (fun vs H1 => vs.length = ps.length ∧ spZ (gOf X hx) (C.call x) vs H1 Q (WE W σ)) J
    ⟨A, S, (Go.know (fun as s' e => (csM_len e).trans (dens_len es)) (Go.split qq)).mono fun as B H1 st ⟨hn, q1⟩ vs r => ⟨by rw [r.len, hn, hl], sp_call st r q1⟩⟩
  refine wpAny_Call_Name_kw (ld_glob J hg hm ?_ hdb)
  cases es with
  | nil =>
    have sp := sp_call (C := C) (as := []) (vs := []) (Q := Q) (Step.refl S) rfl qq
    exact PySem.W.callWith_K0 J.kIn hk (run_Z (us := []) Fz hr hgd hw hb tk J .nil hl sp)
  | cons e r =>
    simp only [List.all_cons, Bool.and_eq_true, Bool.not_eq_true'] at hs
    refine PySem.W.callWith_K (h₀ := X.base) J.ok.mod.kin hk (thn args fun us s1 hh => ?_) (star_each hs.1 _ _) (star_all hs.2 q X.env)
    obtain ⟨vs, H1, J1, rv, hlen, sp⟩ := hh
    exact ⟨J1.kIn, run_Z Fz hr hgd hw hb tk J1 rv hlen sp⟩
/-- a def that stands in a dict is called -/
theorem dok_calle {f : E} {es : List E} {q : Pos} (hf : DOk X hx W C f) (hgd : X.A.guards = some []) (hw : WarmX hot X hx) (tk : L2N.Takes X W) (hs : es.all (fun e => !isStar e) = true) (hne : es ≠ []) (h : ∀ e ∈ es, DOk X hx W C e)
    (ht : eval (toX (.calle f es q)) X.env = (do callWith q (← eval (toX f) X.env) [] (backTo q (starEach (toXs es) X.env)) (backToKw q (keywordEach [] X.env))))
    (hfn : ∀ x, C.ar x = some es.length → ∃ (k : Nat) (a : Addr) (fd : FuncData) (ps : List Str), FnZ X.prog X.w X.K X.mg X.base hot k a fd ps (C.call x) ∧ Rm k X.A ∧ Binds X.K fd ps [] ∧ X.mg x = some (.ref a) ∧ PySem.W.keepIn X.K (.ref a) = true ∧ ps.length = es.length) :
    DOk X hx W C (.calle f es q) := by
  refine dok_V (m := calleM C (den C f) (dens C es)) rfl (.inl rfl) ⟨fun pins s σ H Q J hq => ?_⟩
  obtain ⟨A, S, qq⟩ := hq
  unfold calleM at qq
  rw [ht]
  have first := hf.a.run pins s σ H (fun v H1 => ∃ (B : Ab) (a : Z.A), Step (gOf X hx) A H B σ H1 ∧ RepA (gOf X hx) σ B a v ∧ Go (gOf X hx) W σ B H1 ((match a with
    | .val (.fn g) => if C.ar g = some (dens C es).length then (csM (dens C es) (C.lent g)).bind fun as => doCall C g as else M.stuck
    | _ => M.stuck) B.env) (KV (gOf X hx) A H Q)) J ⟨A, S, (Go.split qq).mono fun a B H1 st q1 v r => ⟨B, a, st, r, q1⟩⟩
  refine wpAny_bind (thn first fun u s1 hh => ?_)
  obtain ⟨v, H1, J1, ru, B, a, st, r, q1⟩ := hh
  cases a with
  | plc i => exact q1.elim
  | val d =>
    cases d with
    | fn x =>
      dsimp only at q1
      rw [dens_len] at q1
      by_cases har : C.ar x = some es.length
      case neg => rw [if_neg har] at q1; exact q1.elim
      rw [if_pos har] at q1
      obtain ⟨k, fa, fd, ps, Fz, hr, hb, hm, hk, hl⟩ := hfn x har
      have hv : v = .ref fa := by
        have r : fnV (gOf X hx) x v := by
          have r : Rp (gOf X hx) B.F (.fn x) v := r
          simpa only [Rp] using r
        rcases r with ⟨b, e1, e2⟩ | ⟨e1, _⟩
        · have e1 : X.mg x = some (.ref b) := e1
          rw [hm] at e1
          cases e1
          exact e2
        · have e1 : X.mg x = none := e1
          rw [hm] at e1; cases e1
      subst hv
      obtain rfl : u = Value.ref fa := ru
      have args := (pa_cs (fs := C.lent x) hs h).run q pins s1 σ H1 (fun vs H2 => vs.length = ps.length ∧ spZ (gOf X hx) (C.call x) vs H2 Q (WE W σ)) J1
        ⟨B, st.sim, (Go.know (fun as s' e => (csM_len e).trans (dens_len es)) (Go.split q1)).mono fun as B2 H2 st2 ⟨hn, q2⟩ vs r2 => ⟨by rw [r2.len, hn, hl], sp_call (st.trans st2) r2 q2⟩⟩
      cases es with
      | nil => exact absurd rfl hne
      | cons e rest =>
        simp only [List.all_cons, Bool.and_eq_true, Bool.not_eq_true'] at hs
        refine PySem.W.callWith_K (h₀ := X.base) J1.ok.mod.kin hk (thn args fun us s2 hh => ?_) (star_each hs.1 _ _) (star_all hs.2 q X.env)
        obtain ⟨vs, H2, J2, rv, hlen, sp⟩ := hh
        exact ⟨J2.kIn, run_Z Fz hr hgd hw hb tk J2 rv hlen sp⟩
    | _ => exact q1.elim
end
end Z
end

section
set_option Elab.async false
set_option linter.all false
set_option maxRecDepth 100000
set_option maxHeartbeats 1000000
/-! ZStm: statements. -/
namespace Z
open PySem L2
mutual
def toS : S → Stmt
  | .asg t e p => .Assign [toX t] (toX e) p
  | .aug t op e p => .AugAssign (toX t) op.x (toX e) p
  | .ret e p => .Return (some (toX e)) p
  | .retn p => .Return none p
  | .ifs c a b p => .If (toX c) (toSs a) (toSs b) p
  | .fors t it b p => .For (toX t) (toX it) (toSs b) [] p
  | .whl c b p => .While (toX c) (toSs b) [] p
  | .brk p => .Break p
  | .cnt p => .Continue p
  | .pas p => .Pass p
  | .expr e p => .Expr (toX e) p
  | .rais x es p q r => .Raise (some (.Call (.Name x p) (toXs es) [] q)) none r
  | .tryx b x px n h ph p => .Try (toSs b) [.ExceptHandler (some (.Name x px)) (n.map (·.2)) (toSs h) ph] [] [] p
def toSs : List S → List Stmt
  | [] => []
  | s :: r => toS s :: toSs r
end
/-- what is wanted behind a statement, by its result -/
def kS (g : G) (D : Ends) (A : Ab) (H : Hp) : SR → Ab → L2.St → Hp → Prop
  | .nx, _, σ', H' => D.nx σ' H'
  | .bk, _, σ', H' => D.bk σ' H'
  | .ct, _, σ', H' => D.ct σ' H'
  | .rt o, B, _, H' => ∀ v L, Ow g B.F H' o v L → Apt A H B L → D.rt v H'
def RdS (g : G) (W : WX) (T : List Nat) (m : M SR) : TS := fun D σ H => ∃ (A0 : Ab) (σ0 : L2.St) (H0 : Hp) (A : Ab) (T' : List Nat), (∀ i, i ∈ T → i ∈ T') ∧ Step g A0 H0 A σ H ∧ Kp T' σ0 σ ∧ GoS g W T' σ0 A0 H0 (m A.env) (kS g D A0 H0)
section
variable {α β γ : Type} {X : Cx} {hx : HX} {W : WX} {C : Cxt} {g : G} {T T' : List Nat} {σ σ0 : L2.St} {A A0 B : Ab} {H H0 H1 : Hp} {e : E} {D : Ends}
theorem RdS.mk {m : M SR} (hT : ∀ i, i ∈ T → i ∈ T') (st : Step g A0 H0 A σ H) (kp : Kp T' σ0 σ) (h : GoS g W T' σ0 A0 H0 (m A.env) (kS g D A0 H0)) : RdS g W T m D σ H := ⟨A0, σ0, H0, A, T', hT, st, kp, h⟩
theorem RdS.wide {m : M SR} (hT : ∀ i, i ∈ T → i ∈ T') (h : RdS g W T' m D σ H) : RdS g W T m D σ H := by
  obtain ⟨A0, σ0, H0, A, T2, h1, st, kp, q⟩ := h
  exact ⟨A0, σ0, H0, A, T2, fun i hi => h1 i (hT i hi), st, kp, q⟩
/-- the last step of a run -/
theorem GoS.last {m : M Unit} {r : SR} (h : GoS g W T σ A H ((M.bind m fun _ => M.pure r) B.env) (kS g D A0 H0)) : GoS g W T σ A H (m B.env) fun _ C σ' H' => kS g D A0 H0 r C σ' H' := by
  unfold M.bind at h
  cases e : m B.env with
  | ok a s => rw [e] at h; exact h
  | ex x s => rw [e] at h; exact h
  | st => rw [e] at h; exact h.elim
theorem pss_nilZ : PSs X [] (RdS (gOf X hx) W T (exSs C [])) := PSs.weak pss_nil fun D σ H ⟨A0, σ0, H0, A, T', hT, st, kp, q⟩ => GoS.pure q st kp
theorem pss_consZ {s : S} {r : List S} (h1 : PS X (toS s) (RdS (gOf X hx) W T (exS C s))) (h2 : PSs X (toSs r) (RdS (gOf X hx) W T (exSs C r))) : PSs X (toSs (s :: r)) (RdS (gOf X hx) W T (exSs C (s :: r))) := by
  refine PSs.weak (pss_cons h1 h2) fun D σ H ⟨A0, σ0, H0, A, T', hT, st, kp, q⟩ => ?_
  have q1 := GoS.into (T1 := T') (fun _ z => z) q st kp
  refine RdS.mk (A0 := A) (σ0 := σ) (H0 := H) (A := A) (T' := T') hT (.refl st.sim) .refl (q1.mono fun r1 C1 σ1 H1 st1 kp1 q2 => ?_)
  cases r1 with
  | nx => exact RdS.mk hT (st.trans st1) (kp.trans kp1) q2
  | bk =>
    have q3 := GoS.pure (k := kS (gOf X hx) D A0 H0) (W := W) (a := SR.bk) q2 (st.trans st1) (kp.trans kp1)
    exact q3
  | ct =>
    have q3 := GoS.pure (k := kS (gOf X hx) D A0 H0) (W := W) (a := SR.ct) q2 (st.trans st1) (kp.trans kp1)
    exact q3
  | rt o =>
    intro v L ow ap
    exact GoS.pure q2 (st.trans st1) (kp.trans kp1) v L ow (ap.back st)
theorem ps_pasZ {p : Pos} : PS X (toS (.pas p)) (RdS (gOf X hx) W T (exS C (.pas p))) := PS.weak ps_pass fun D σ H ⟨A0, σ0, H0, A, T', hT, st, kp, q⟩ => GoS.pure q st kp
theorem ps_brkZ {p : Pos} : PS X (toS (.brk p)) (RdS (gOf X hx) W T (exS C (.brk p))) := PS.weak ps_break fun D σ H ⟨A0, σ0, H0, A, T', hT, st, kp, q⟩ => GoS.pure q st kp
theorem ps_cntZ {p : Pos} : PS X (toS (.cnt p)) (RdS (gOf X hx) W T (exS C (.cnt p))) := PS.weak ps_continue fun D σ H ⟨A0, σ0, H0, A, T', hT, st, kp, q⟩ => GoS.pure q st kp
theorem ps_retnZ {p : Pos} : PS X (toS (.retn p)) (RdS (gOf X hx) W T (exS C (.retn p))) := PS.weak ps_retN fun D σ H ⟨A0, σ0, H0, A, T', hT, st, kp, q⟩ => by
  have h := GoS.pure q st kp
  exact h .non [] ⟨by simp only [Rp], rfl⟩ ⟨fun _ z => absurd z List.not_mem_nil, fun _ z => absurd z List.not_mem_nil⟩
theorem ps_exprZ {e : E} {p : Pos} (he : DOk X hx W C e) (hs : swapsWith (toX e) none p.line X.env = pure false) : PS X (toS (.expr e p)) (RdS (gOf X hx) W T (exS C (.expr e p))) :=
  PS.weak (ps_expr he.v hs) fun D σ H ⟨A0, σ0, H0, A, T', hT, st, kp, q⟩ => ⟨A, st.sim, (GoS.intoE q st kp).mono fun o B H1 st1 q1 v L ow ap => GoS.pure q1 (st.trans st1) kp⟩
theorem ps_ifZ {c : E} {a b : List S} {p : Pos} (hc : DOk X hx W C c) (hi : isIfe c = false) (ha : PSs X (toSs a) (RdS (gOf X hx) W T (exSs C a))) (hb : PSs X (toSs b) (RdS (gOf X hx) W T (exSs C b))) :
    PS X (toS (.ifs c a b p)) (RdS (gOf X hx) W T (exS C (.ifs c a b p))) :=
  PS.weak (ps_if (hc.t hi) ha hb) fun D σ H ⟨A0, σ0, H0, A, T', hT, st, kp, q⟩ => ⟨A, st.sim, (GoS.intoE q st kp).mono fun t B H1 st1 q1 => by
    cases t with
    | true => rw [if_pos rfl] at q1 ⊢; exact RdS.mk hT (st.trans st1) kp q1
    | false => rw [if_neg (by decide)] at q1 ⊢; exact RdS.mk hT (st.trans st1) kp q1⟩
/-- return x: what x owns goes out -/
theorem ps_retZ {e : E} {p : Pos} (he : DOk X hx W C e) : PS X (toS (.ret e p)) (RdS (gOf X hx) W T (exS C (.ret e p))) := by
  cases hv : (den C e).var with
  | none =>
    refine PS.weak (ps_ret he.v) fun D σ H ⟨A0, σ0, H0, A, T', hT, st, kp, q⟩ => ⟨A, st.sim, ?_⟩
    have q : GoS (gOf X hx) W T' σ0 A0 H0 (retM (den C e) A.env) (kS (gOf X hx) D A0 H0) := q
    unfold retM at q
    rw [hv] at q
    exact (GoS.intoE q st kp).mono fun o B H1 st1 q1 v L ow ap => GoS.pure q1 (st.trans st1) kp v L ow (ap.back st)
  | some i =>
    refine PS.weak (ps_ret (he.n i hv)) fun D σ H ⟨A0, σ0, H0, A, T', hT, st, kp, q⟩ => ?_
    have q : GoS (gOf X hx) W T' σ0 A0 H0 (retM (den C e) A.env) (kS (gOf X hx) D A0 H0) := q
    unfold retM at q
    rw [hv] at q
    dsimp only at q
    cases e1 : getO A.env i with
    | none => rw [e1] at q; exact q.elim
    | some o =>
      rw [e1] at q
      obtain ⟨v, h1, h2⟩ := st.sim.slot i o (getO_some e1)
      have es : σ.set i (some v) = σ := by
        apply List.ext_getElem?
        intro j
        by_cases hj : i = j
        · subst hj
          rw [List.getElem?_set_self (List.getElem?_eq_some_iff.mp h1).1, h1]
        · rw [List.getElem?_set_ne hj]
      have dr := st.sim.drop i (some v)
      rw [es] at dr
      refine ⟨v, h1, q ⟨A.F, A.env.set i none, fun j => if j = i then [] else A.fp j⟩ σ H rfl ⟨st.fr, dr, fun a ha => ?_⟩ kp v (A.fp i) h2 ⟨fun a ha z => ?_, fun a ha => st.sb a ⟨i, ha⟩⟩⟩
      · obtain ⟨j, hj⟩ := ha
        by_cases z : j = i
        · simp [z] at hj
        · simp only [z, if_false] at hj; exact st.sb a ⟨j, hj⟩
      · obtain ⟨j, hj⟩ := z
        by_cases z : j = i
        · simp [z] at hj
        · simp only [z, if_false] at hj; exact z (st.sim.dis j i a hj ha)
/-- a store behind an expression -/
theorem ps_asgZ {t e : E} {p : Pos} (he : DOk X hx W C e) (hg : PG X (toX t) (RdG (gOf X hx) W (tset t) (den C t).g)) (hp : isTup2 t e = false) (hT : ∀ i, i ∈ tset t → i ∈ T)
    (hs : swapsWithSole [toX t] (toX e) p.line X.env = pure false) (hw : swappedStores [toX t] (toX e) X.env = pure none) (h1 : (assignEach [toX t] X.env).map (·.2) = [assign (toX t) X.env]) :
    PS X (toS (.asg t e p)) (RdS (gOf X hx) W T (exS C (.asg t e p))) := by
  refine PS.weak (ps_asg he.v hg hs hw h1) fun D σ H ⟨A0, σ0, H0, A, T', hT', st, kp, q⟩ => ⟨A, st.sim, ?_⟩
  have q : GoS (gOf X hx) W T' σ0 A0 H0 (asgM (den C t) (den C e) (isTup2 t e) A.env) (kS (gOf X hx) D A0 H0) := q
  unfold asgM at q
  rw [hp, if_neg (by decide)] at q
  exact (GoS.intoE q st kp).mono fun o B H1 st1 q1 v L ow ap => ⟨A0, σ0, H0, B, o, L, T', fun i hi => hT' i (hT i hi), st.trans st1, kp, ow, ap.back st, q1.last⟩
/-- x = [..], in its own way -/
theorem asg_lc {el tg it : E} {ifs : List E} {sc : Scope} {p py sp : Pos} {ow : List (Str × Nat)} {i : Nat} {y : Str} (hi : ∀ j, j = i → j ∈ T)
    (h : PS X (.Assign [.Name y py] (toX (.lc el tg it ifs (ow.map (·.2)) sc p)) sp) (tAsg (RdV (gOf X hx) W (den C (.lc el tg it ifs (ow.map (·.2)) sc p)).v) (gName i))) :
    PS X (toS (.asg (.var i y py) (.lc el tg it ifs (ow.map (·.2)) sc p) sp)) (RdS (gOf X hx) W T (exS C (.asg (.var i y py) (.lc el tg it ifs (ow.map (·.2)) sc p) sp))) := by
  refine PS.weak h fun D σ H ⟨A0, σ0, H0, A, T', hT', st, kp, q⟩ => ⟨A, st.sim, ?_⟩
  refine (GoS.intoE q st kp).mono fun o B H1 st1 q1 v L ow ap => ?_
  have q2 : GoS (gOf X hx) W T' σ0 A0 H0 ((M.bind (varG i o) fun _ => M.pure SR.nx) B.env) (kS (gOf X hx) D A0 H0) := q1
  have q3 : GoS (gOf X hx) W T' σ0 A0 H0 (if i < B.env.length then R.ok () (B.env.set i (some o)) else .st) (fun _ C σ' H' => kS (gOf X hx) D A0 H0 .nx C σ' H') := q2.last
  by_cases hl : i < B.env.length
  · rw [if_pos hl] at q3
    exact q3 _ _ H1 rfl (set_step (st.trans st1) hl ow (ap.back st)) (kp.trans (kp_set (hT' i (hi i rfl))))
  · rw [if_neg hl] at q3
    exact q3.elim
/-- a loop -/
def FoI (g : G) (W : WX) (T' : List Nat) (σ0 : L2.St) (A0 : Ab) (H0 : Hp) (F1 : Hp) (gm : O → M Unit) (b : M SR) (ds : List Z.D) (k : SR → Ab → L2.St → Hp → Prop) (i m : Nat) (σ : L2.St) (H : Hp) : Prop :=
  m = ds.length - i ∧ i ≤ ds.length ∧ ∃ B : Ab, Step g A0 H0 B σ H ∧ Kp T' σ0 σ ∧ Ext F1 B.F ∧ GoS g W T' σ0 A0 H0 (forM gm b (ds.drop i) B.env) k
theorem ps_forZ {t it : E} {b : List S} {p : Pos} (hp : PassesOwn (model X.prog X.w) X.A X.env X.xe) (hc : X.calm = true) (hi : DOk X hx W C it) (hg : PG X (toX t) (RdG (gOf X hx) W (tset t) (den C t).g)) (hT : ∀ i, i ∈ tset t → i ∈ T)
    (hb : PSs X (toSs b) (RdS (gOf X hx) W T (exSs C b))) : PS X (toS (.fors t it b p)) (RdS (gOf X hx) W T (exS C (.fors t it b p))) := by
  refine PS.weak (ps_for hp hc (hi.i (toX t)) hg hb (no_set _)) fun D σ H ⟨A0, σ0, H0, A, T', hT', st, kp, q⟩ => ⟨A, st.sim, ?_⟩
  refine (GoS.intoE q st kp).mono fun ds B H1 st1 q1 J wk => ?_
  refine ⟨FoI (gOf X hx) W T' σ0 A0 H0 B.F (den C t).g (exSs C b) ds (kS (gOf X hx) D A0 H0), ⟨ds.length, by omega, Nat.zero_le _, B, st.trans st1, kp, Ext.refl _, q1⟩, ?_⟩
  rintro i m σ1 Hc ⟨rfl, hi', Bc, stc, kpc, ex, q2⟩
  obtain ⟨w1, w2⟩ := wk σ1 Bc Hc ex stc.sim
  by_cases hlt : i < ds.length
  · obtain ⟨hgo, hy⟩ := w2 i ds[i] (List.getElem?_eq_getElem hlt)
    refine .inr ⟨hgo, _, fun σ' H' hN => ⟨ds.length - (i + 1), by omega, hN⟩, fun x H' hyld => ?_⟩
    obtain ⟨C0, e0, st2, rx⟩ := hy x H' hyld
    rw [List.drop_eq_getElem_cons hlt, ← e0] at q2
    have q3 := GoS.into (T1 := T') (fun _ z => z) q2 (stc.trans st2) kpc
    refine ⟨C0, σ1, H', C0, .frz ds[i], [], T', fun i hi => hT' i (hT i hi), .refl st2.sim, .refl, ⟨rx, rfl⟩, ⟨fun _ z => absurd z List.not_mem_nil, fun _ z => absurd z List.not_mem_nil⟩, q3.mono fun _ B2 σ2 H2 st3 kp3 q4 => ?_⟩
    have stA := (stc.trans st2).trans st3
    have kpA := kpc.trans kp3
    have exA : Ext B.F B2.F := (ex.trans st2.fr.ext).trans st3.fr.ext
    have q5 := GoS.into (T1 := T') (fun _ z => z) q4 stA kpA
    refine RdS.mk (A0 := B2) (σ0 := σ2) (H0 := H2) (A := B2) (T' := T') hT' (.refl stA.sim) .refl (q5.mono fun r B3 σ3 H3 st4 kp4 q6 => ?_)
    cases r with
    | nx => exact ⟨rfl, hlt, B3, stA.trans st4, kpA.trans kp4, exA.trans st4.fr.ext, q6⟩
    | ct => exact ⟨rfl, hlt, B3, stA.trans st4, kpA.trans kp4, exA.trans st4.fr.ext, q6⟩
    | bk =>
      have q7 := GoS.pure (k := kS (gOf X hx) D A0 H0) (W := W) (a := SR.nx) q6 (stA.trans st4) (kpA.trans kp4)
      exact q7
    | rt o =>
      intro v L ow ap
      exact GoS.pure q6 (stA.trans st4) (kpA.trans kp4) v L ow (ap.back stA)
  · have e : i = ds.length := by omega
    subst e
    rw [List.drop_length] at q2
    exact .inl ⟨w1, GoS.pure q2 stc kpc⟩
end
end Z
end

section
set_option Elab.async false
set_option linter.all false
set_option maxRecDepth 100000
set_option maxHeartbeats 1000000
/-! ZTry: raise, try. -/
namespace Z
open PySem L2
section
variable {X : Cx} {hx : HX} {W : WX} {C : Cxt} {g : G} {T T' : List Nat} {σ σ0 : L2.St} {A A0 B : Ab} {H H0 H1 : Hp} {e : E} {D : Ends}
theorem ps_raisZ {x m : Str} {k : Nat} {p p2 q r : Pos} {Cl : Addr} (hc : X.calm = true) (tk : L2N.Takes X W) (hm : X.mg x = some (.ref Cl)) (hf : C.fld x = none) (mk : L2N.PMk X (.Call (.Name x p) [.Constant (.str m) k p2] [] q) (fun _ H Q => Q (.ref Cl) none H)) :
    PS X (toS (.rais x [.str m k p2] p q r)) (RdS (gOf X hx) W T (exS C (.rais x [.str m k p2] p q r))) := by
  refine PS.weak (L2N.ps_raise hc tk mk) fun D σ H ⟨A0, σ0, H0, A, T', hT, st, kp, h⟩ => ?_
  have h : GoS (gOf X hx) W T' σ0 A0 H0 (raisM C x (dens C [.str m k p2]) A.env) (kS (gOf X hx) D A0 H0) := h
  have e1 : raisM C x (dens C [.str m k p2]) A.env = .ex ⟨x, none⟩ A.env := by
    show (match [Z.D.str m], C.fld x with
      | [.str _], none => R.ex ⟨x, none⟩ A.env
      | [.int n], some f => R.ex ⟨x, some (f, n)⟩ A.env
      | _, _ => .st) = _
    rw [hf]
  rw [e1] at h
  exact h A σ H none Cl rfl st kp rfl hm
/-- apart from the handled exception both speak of the same -/
theorem Ow.reHx {hx' : Option (Addr × Addr × Option Addr)} {F H : Hp} {o : O} {v : V} {L : List Addr} (h : Ow g F H o v L) (n : ∀ c x, o ≠ .exc c x) : Ow ⟨g.K, g.mg, g.w, hx', g.scr⟩ F H o v L := by
  have rp : ∀ {d : Z.D} {v : V}, Rp g F d v → Rp ⟨g.K, g.mg, g.w, hx', g.scr⟩ F d v := fun {d v} r => Rp.hx r
  have rps : ∀ {d : List Z.D} {v : List V}, Rps g F d v → Rps ⟨g.K, g.mg, g.w, hx', g.scr⟩ F d v := fun {d v} r => Rps.hx r
  cases o with
  | frz d => exact ⟨rp h.1, h.2⟩
  | lst ds =>
    obtain ⟨a, xs, e1, e2, h1, h2, h3, h4⟩ := h
    exact ⟨a, xs, e1, e2, h1, h2, h3, rps h4⟩
  | dct kvs =>
    obtain ⟨a, e1, e2, h2, h3⟩ := h
    exact ⟨a, e1, e2, h2, h3.imp (fun ⟨l, q, r⟩ => ⟨l, q, RpK.hx r⟩) fun ⟨h0, l, q, r⟩ => ⟨h0, l, q, RpT.hx r⟩⟩
  | ins c fs =>
    obtain ⟨a, Cl, dx, l, e1, e2, h1, h2, h3, h4, h5, h6⟩ := h
    exact ⟨a, Cl, dx, l, e1, e2, h1, h2, h3, h4, h5, fldsR.hx h6⟩
  | exc c x => exact absurd rfl (n c x)
theorem noExc_at {s : Env} (h : noExc s = true) {i : Nat} {o : O} (e : s[i]? = some (some o)) : ∀ c x, o ≠ .exc c x := fun c x q => by
  unfold noExc at h
  rw [List.all_eq_true] at h
  have := h (some o) (List.mem_of_getElem? e)
  rw [q] at this
  cases this
theorem Sim.reHx {hx' : Option (Addr × Addr × Option Addr)} {F : Hp} {env : Env} {fp : Nat → List Addr} (S : Sim g F env σ H fp) (n : noExc env = true) : Sim ⟨g.K, g.mg, g.w, hx', g.scr⟩ F env σ H fp :=
  ⟨S.sub, S.pl, S.ls, S.scu, S.len, fun i o e => by
    obtain ⟨v, h1, h2⟩ := S.slot i o e
    exact ⟨v, h1, h2.reHx (noExc_at n e)⟩, S.emp, S.dis⟩
/-- what the suite does, by the exception's class -/
def tSu (X : Cx) (scr : Addr → Prop) (T : List Nat) (m : M SR) (a : Addr) (cls : Value) (d : Option Addr) : TS := match cls with
  | .ref Cl => RdS ⟨X.K, X.mg, X.w, some (a, Cl, d), scr⟩ WF T m
  | _ => fun _ _ _ => False
theorem ps_tryZ {b h : List S} {x n : Str} {px ph p : Pos} {i : Nat} {c : Value} (hs : X.stack = X.env :: X.outer) (hf : X.env.frame = some X.env.locals) (hN : X.N.Nodup) (hi : X.N[i]? = some n) (hln : X.env.kindOf n = some .local) (hc : Names X x c) (tk : L2N.Takes X W)
    (hT : i ∈ T) (hne : h ≠ []) (hcl : ∀ y Cl, X.mg y = some (.ref Cl) → C.cls y = true → PySem.W.exmOne X.K (.ref Cl) c = some (C.sub y x))
    (hb : ∀ (W' : WX) (pn : List (Addr × Obj)) (xe : Value → Shared → Prop), L2N.Takes (X.tr pn xe) W' → PassesOwn (model X.prog X.w) X.A X.env xe → PSs (X.tr pn xe) (toSs b) (RdS (gOf X hx) W' T (exSs C b)))
    (hsu : ∀ (a : Addr) (oe : Obj) (Cl : Addr) (d : Option Addr) (pn : List (Addr × Obj)), L2N.Zn (.ref Cl) d oe → (∃ vs, oe.data = .fields vs) → PSs (X.suite a ((a, oe) :: pn)) (toSs h) (RdS ⟨X.K, X.mg, X.w, some (a, Cl, d), hx.2⟩ WF T (exSs C h))) :
    PS X (toS (.tryx b x px (some (i, n)) h ph p)) (RdS (gOf X hx) W T (exS C (.tryx b x px (some (i, n)) h ph p))) := by
  have hsu' : ∀ (a : Addr) (oe : Obj) (cls : Value) (d : Option Addr) (pn : List (Addr × Obj)), L2N.Zn cls d oe → (∃ vs, oe.data = .fields vs) → PSs (X.suite a ((a, oe) :: pn)) (toSs h) (tSu X hx.2 T (exSs C h) a cls d) := fun a oe cls d pn z v => by
    cases cls with
    | ref Cl => exact hsu a oe Cl d pn z v
    | _ => exact ⟨fun pins s σ H D I q => q.elim⟩
  obtain ⟨h0, hr, rfl⟩ : ∃ h0 hr, h = h0 :: hr := by cases h with | nil => exact absurd rfl hne | cons a r => exact ⟨a, r, rfl⟩
  refine PS.weak (L2N.ps_try_as (Wout := W) (tb := fun W' => RdS (gOf X hx) W' T (exSs C b)) (ts := tSu X hx.2 T (exSs C (h0 :: hr))) hs hf hN hi hln hc tk hb hsu') fun D σ H ⟨A0, σ0, H0, A, T', hT', st, kp, q⟩ => ?_
  refine RdS.mk hT' st kp ?_
  have q : GoS (gOf X hx) W T' σ0 A0 H0 (tryM C (exSs C b) x (some i) (exSs C (h0 :: hr)) A.env) (kS (gOf X hx) D A0 H0) := q
  unfold tryM at q
  cases eb : exSs C b A.env with
  | ok r s' => rw [eb] at q; exact q
  | st => rw [eb] at q; exact q.elim
  | ex e s' =>
    rw [eb] at q
    dsimp only at q
    cases hcc : C.cls e.c with
    | false => rw [hcc, if_neg (by decide)] at q; exact q.elim
    | true =>
    rw [hcc, if_pos rfl] at q
    intro B σ' H' d Cl eB stB kpB xo hm
    refine ⟨C.sub e.c x, hcl e.c Cl hm hcc, fun hbT a ha => ?_, fun hbF => ?_⟩
    · rw [hbT, if_pos rfl] at q
      by_cases n1 : noExc s' = true
      case neg => rw [if_neg n1] at q; exact q.elim
      rw [if_pos n1] at q
      by_cases n2 : i < s'.length
      case neg => rw [if_neg n2] at q; exact q.elim
      rw [if_pos n2] at q
      subst eB
      have S1 : Sim ⟨X.K, X.mg, X.w, some (a, Cl, d), hx.2⟩ B.F (B.env.set i (some (.exc e.c e.arg))) (σ'.set i (some (.ref a))) H' (fun j => if j = i then [] else B.fp j) := by
        refine Sim.set (Sim.reHx (g := gOf X hx) stB.sim n1) n2 ⟨rfl, a, Cl, d, rfl, rfl, hm, ?_⟩ fun _ z => absurd z List.not_mem_nil
        unfold XO at xo
        cases hE : e.arg with
        | none => rw [hE] at xo; exact xo
        | some fn => rw [hE] at xo; exact xo
      refine RdS.mk (A0 := ⟨B.F, B.env.set i (some (.exc e.c e.arg)), fun j => if j = i then [] else B.fp j⟩) (A := ⟨B.F, B.env.set i (some (.exc e.c e.arg)), fun j => if j = i then [] else B.fp j⟩) (T' := T') hT' (.refl S1) .refl ?_
      dsimp only
      cases eh : exSs C (h0 :: hr) (B.env.set i (some (.exc e.c e.arg))) with
      | ex e2 s2 => rw [eh] at q; exact q.elim
      | st => rw [eh] at q; exact q.elim
      | ok r s2 =>
        rw [eh] at q
        dsimp only at q
        by_cases n3 : (noExc (s2.set i none) && noExcR r) = true
        case neg => rw [if_neg n3] at q; exact q.elim
        rw [if_pos n3] at q
        simp only [Bool.and_eq_true] at n3
        intro B2 σ2 H2 eB2 st2 kp2
        subst eB2
        have S3 : Sm (gOf X hx) ⟨B2.F, B2.env.set i none, fun j => if j = i then [] else B2.fp j⟩ (σ2.set i none) H2 := Sim.reHx (hx' := hx.1) (st2.sim.drop i none) n3.1
        have w1 : ∀ y, wf (fun j => if j = i then [] else B.fp j) y → wf B.fp y := fun y ⟨j, hj⟩ => by
          by_cases z : j = i
          · simp [z] at hj
          · simp only [z, if_false] at hj; exact ⟨j, hj⟩
        have w2 : ∀ y, wf (fun j => if j = i then [] else B2.fp j) y → wf B2.fp y := fun y ⟨j, hj⟩ => by
          by_cases z : j = i
          · simp [z] at hj
          · simp only [z, if_false] at hj; exact ⟨j, hj⟩
        have iT : i ∈ T' := hT' i hT
        have st3 : Step (gOf X hx) A0 H0 ⟨B2.F, B2.env.set i none, fun j => if j = i then [] else B2.fp j⟩ (σ2.set i none) H2 :=
          ⟨stB.fr.trans st2.fr fun y hy => stB.sb y (w1 y hy), S3, fun y hy => (st2.sb y (w2 y hy)).elim (fun z => stB.sb y (w1 y z)) fun z => .inr (stB.fr.none_back z)⟩
        have q2 := q _ _ H2 rfl st3 (((kpB.trans (kp_set iT)).trans kp2).trans (kp_set iT))
        cases r with
        | nx => exact q2
        | bk => exact q2
        | ct => exact q2
        | rt o =>
          intro v L ow ap
          refine q2 v L (Ow.reHx (hx' := hx.1) ow fun c y z => ?_) ⟨fun y hy z => ap.1 y hy (w2 y z), fun y hy => (ap.2 y hy).elim (fun z => stB.sb y (w1 y z)) fun z => .inr (stB.fr.none_back z)⟩
          rw [z] at n3
          exact absurd n3.2 (by simp [noExcR])
    · rw [hbF, if_neg (by decide)] at q
      exact q B σ' H' d Cl eB stB kpB xo hm
end
end Z
end

section
set_option Elab.async false
set_option linter.all false
set_option maxRecDepth 100000
set_option maxHeartbeats 1000000
/-! ZOk: what is checked of a text; every text that passes does what its reading tells. -/
namespace Z
open PySem L2
/-- the names of a module -/
structure Tb where
  fn : Str → Option Nat
  hot : Str → Bool
  bi : Str → Bool
  cls : Str → Bool
  rai : Str → Bool
/-- where a text stands: its scope, the variables, which of them may be stored to though they are cells, is no exception handled -/
structure Sc where
  sc : Scope
  N : List Str
  tf : Str → Bool
  cf : Bool
def relS (sc sc' : Scope) : Scope := relabel sc' { (default : PySem.Env) with scope := sc }
theorem relabel_eq (env : PySem.Env) (sc' : Scope) : relabel sc' env = relS env.scope sc' := rfl
def Sc.blk (S : Sc) (sc' : Scope) : Sc := { S with sc := relS S.sc sc', tf := fun x => sc'.names.lookup x == some .cell }
def visC (sc : Scope) (x : Str) : Bool := match sc.names.lookup x with
  | some .local => true
  | some .cell => true
  | some .free => true
  | _ => false
theorem vis_of {sc : Scope} {x : Str} (h : visC sc x = true) : Vis sc x := by
  unfold visC at h
  split at h
  · exact .inl (by assumption)
  · exact .inr (.inl (by assumption))
  · exact .inr (.inr (by assumption))
  · cases h
def locC (sc : Scope) (x : Str) : Bool := match sc.names.lookup x with
  | some .local => true
  | some .cell => true
  | _ => false
theorem loc_of {sc : Scope} {x : Str} (h : locC sc x = true) : Loc sc x := by
  unfold locC at h
  split at h
  · exact .inl (by assumption)
  · exact .inr (by assumption)
  · cases h
def lclC (sc : Scope) (x : Str) : Bool := match sc.names.lookup x with
  | some .local => true
  | _ => false
theorem lcl_of {sc : Scope} {x : Str} (h : lclC sc x = true) : sc.names.lookup x = some .local := by
  unfold lclC at h
  split at h
  · assumption
  · cases h
def glC (sc : Scope) (x : Str) : Bool := match sc.names.lookup x with
  | some .globalImplicit => !(x == "__debug__") && !(x == "__name__")
  | _ => false
theorem gl_of {sc : Scope} {x : Str} (h : glC sc x = true) : sc.names.lookup x = some .globalImplicit ∧ (x == ("__debug__" : Str)) = false ∧ x ≠ "__name__" := by
  unfold glC at h
  split at h
  · simp only [Bool.and_eq_true, Bool.not_eq_true', beq_eq_false_iff_ne] at h
    exact ⟨by assumption, by simpa using h.1, h.2⟩
  · cases h
def varC (S : Sc) (i : Nat) (x : Str) : Bool := decide (S.N[i]? = some x) && visC S.sc x && !(x == "__debug__") && !(x == "__classdict__")
def biNames : List Str := ["len", "int", "abs", "all", "any", "tuple", "repr", "str"]
def ownOf (S : Sc) (own : List Nat) : List (Str × Nat) := own.map fun i => ((S.N[i]?).getD "", i)
theorem own_map {S : Sc} {own : List Nat} : (ownOf S own).map (·.2) = own := by
  unfold ownOf
  rw [List.map_map]
  exact List.map_id' own
mutual
/-- a target -/
def okG (S : Sc) : E → Bool
  | .var i x _ => decide (S.N[i]? = some x) && locC S.sc x && (S.tf x || lclC S.sc x)
  | .tup es _ _ => S.cf && okGs S es
  | _ => false
def okGs (S : Sc) : List E → Bool
  | [] => true
  | e :: r => okG S e && okGs S r
end
/-- a built-in function's arguments -/
def isiC (T : Tb) : List E → Bool
  | [_, .glb t _] => T.bi t && decide (t ∈ tyNames) || T.cls t
  | _ => false
theorem isi_inv {T : Tb} {es : List E} (h : isiC T es = true) : ∃ a t p, es = [a, .glb t p] ∧ (T.bi t && decide (t ∈ tyNames) || T.cls t) = true := by
  unfold isiC at h
  split at h
  · exact ⟨_, _, _, rfl, h⟩
  · cases h
/-- a method that changes a list that a variable has -/
def muC (S : Sc) (m : Str) : E → Bool
  | .var i x _ => varC S i x && (m == "append" || m == "extend" || m == "reverse" || m == "pop")
  | _ => false
def biC (T : Tb) (S : Sc) (x : Str) (es : List E) : Bool := if x == "isinstance" then isiC T es
  else if x == "range" then decide (es.length = 1) || decide (es.length = 2)
  else decide (x ∈ biNames) && !es.isEmpty && (es.all fun e => !isWalkE e) && (S.cf || !(x == "all" || x == "any"))
def isSub : E → Bool
  | .sub _ _ _ => true
  | _ => false
mutual
def okE (T : Tb) (S : Sc) : E → Bool
  | .non _ _ => true
  | .bl _ _ _ => true
  | .int _ _ _ => true
  | .str z _ _ => decide (z.length ≤ 1000000)
  | .var i x _ => varC S i x
  | .glb x _ => glC S.sc x
  | .bin _ a b _ => okE T S a && okE T S b
  | .neg a _ => okE T S a
  | .nt a _ => okE T S a && !isIfe a
  | .band es _ => !es.isEmpty && okEs T S es && es.all fun e => !isIfe e
  | .bor es _ => !es.isEmpty && okEs T S es && es.all fun e => !isIfe e
  | .cmp _ a b _ => okE T S a && okE T S b
  | .chn _ _ a b c _ => okE T S a && okE T S b && okE T S c
  | .ife c a b _ => okE T S c && !isIfe c && okE T S a && okE T S b
  | .call x es _ _ => glC S.sc x && okEs T S es && es.all (fun e => !isStar e) && decide (T.fn x = some es.length) && (S.cf || T.hot x)
  | .calle f es _ => S.cf && isSub f && okE T S f && okEs T S es && es.all (fun e => !isStar e) && !es.isEmpty
  | .bi x es _ _ => okEs T S es && es.all (fun e => !isStar e) && glC S.sc x && T.bi x && biC T S x es
  | .meth o m es p q => (p.endLine == q.line) && es.all (fun e => !isStar e) && decide (es.length < 29) && okEs T S es && (if isMut m then muC S m o else okE T S o && noCall0 o && !es.isEmpty && (m == "index" || m == "count" || m == "join" || m == "split" || m == "startswith" || m == "endswith"))
  | .sub a i _ => okE T S a && okE T S i
  | .slc a lo hi st _ _ => okE T S a && okEo T S lo && okEo T S hi && st.isNone
  | .lst es _ => okEs T S es && es.all (fun e => !isStar e) && decide (es.length ≤ 1000)
  | .tup es _ _ => okEs T S es && es.all (fun e => !isStar e) && decide (es.length ≤ 1000)
  | .lc el tg it ifs own sc _ => S.cf && okE T S it && blkC S.N S.sc sc (ownOf S own) && okG (S.blk sc) tg && (tset tg).all (fun i => decide (i ∈ own)) && okEs T (S.blk sc) ifs && ifs.all (fun e => !isIfe e) && decide (ifs.length ≤ 1) && okE T (S.blk sc) el
  | _ => false
def okEs (T : Tb) (S : Sc) : List E → Bool
  | [] => true
  | e :: r => okE T S e && okEs T S r
def okEo (T : Tb) (S : Sc) : Option E → Bool
  | none => true
  | some e => okE T S e
end
/-- the module's names, as X sees them -/
structure GO (T : Tb) (C : Cxt) (X : Cx) (hx : HX) : Prop where
  un : X.A.units + 300 < cLine
  gd : X.A.guards = some []
  bi : ∀ x, T.bi x = true → X.mg x = none
  fn : ∀ x n, T.fn x = some n → ∃ (k : Nat) (f : Addr) (fd : FuncData) (ps : List Str), FnZ X.prog X.w X.K X.mg X.base false k f fd ps (C.call x) ∧ (T.hot x = true → FnZ X.prog X.w X.K X.mg X.base true k f fd ps (C.call x)) ∧ Rm k X.A ∧ Binds X.K fd ps [] ∧ X.mg x = some (.ref f) ∧ PySem.W.keepIn X.K (.ref f) = true ∧ ps.length = n
  ar : ∀ x, C.ar x = T.fn x
  con : ∀ x d, C.con x = some d → ∃ (v : V) (u : Value), (∀ F, Rp (gOf X hx) F d v) ∧ RelV v u ∧ (X.mg x = some u ∨ (X.mg x = none ∧ bootBuiltins x = some u))
  tyb : ∀ t, t ∈ tyNames → T.bi t = true → C.cls t = false
  tcl : ∀ x, T.cls x = true → C.cls x = true
  cls : ∀ x, C.cls x = true → ∃ Cl : Addr, X.mg x = some (.ref Cl) ∧ ExcC X.K Cl ∧ ∀ y Dl, C.cls y = true → X.mg y = some (.ref Dl) → PySem.W.kitOne X.K (.ref Dl) (.ref Cl) = some (C.sub y x) ∧ PySem.W.exmOne X.K (.ref Dl) (.ref Cl) = some (C.sub y x)
  rai : ∀ x, T.rai x = true → C.fld x = none ∧ ∃ (Cl : Addr) (B newId initId : String) (bmB : List Value), PySem.ExcBaseFacts B newId initId bmB ∧ PySem.W.excIn X.K Cl bmB newId = true ∧ X.mg x = some (.ref Cl) ∧ PySem.W.keepIn X.K (.ref Cl) = true ∧ Raises X (.ref Cl)
structure CO (T : Tb) (C : Cxt) (S : Sc) (X : Cx) (hx : HX) (W : WX) : Prop where
  go : GO T C X hx
  sc : X.env.scope = S.sc
  N : X.N = S.N
  nd : S.N.Nodup
  tf : ∀ x, S.tf x = true → X.fn x = true
  calm : S.cf = true → X.calm = true ∧ hx.1 = none
  hot : S.cf = false → WarmX true X hx
  hh : HxOk X hx
  tk : L2N.Takes X W
  po : PassesOwn (model X.prog X.w) X.A X.env X.xe
section
variable {T : Tb} {C : Cxt} {S : Sc} {X : Cx} {hx : HX} {W : WX}
theorem CO.blk (h : CO T C S X hx W) (hc : S.cf = true) (s : Shared) (H : Hp) (sc' : Scope) (Cl : Addr) (cl : List (Str × Addr)) (fp : List Addr) : CO T C (S.blk sc') (X.blk s H sc' (compEnvC sc' cl Cl X.env) fp) hx WF := by
  refine ⟨⟨h.go.un, h.go.gd, h.go.bi, h.go.fn, h.go.ar, h.go.con, h.go.tyb, h.go.tcl, h.go.cls, h.go.rai⟩, ?_, h.N, h.nd, fun x hx => hx, fun _ => h.calm hc, fun z => ?_, fun a D d e => ?_, ?_, PassesOwn.never⟩
  · show relabel sc' X.env = relS S.sc sc'
    rw [relabel_eq, h.sc]
  · have z : S.cf = false := z
    rw [hc] at z; cases z
  · rw [(h.calm hc).2] at e; cases e
  · intro u s' hq
    obtain ⟨_, _, _, _, _, _, _, _, _, _, _, _, _, _, _, _, q⟩ := hq
    exact q.elim
theorem CO.gl (h : CO T C S X hx W) {x : Str} (g : glC S.sc x = true) : Gl X x := by
  show X.env.scope.names.lookup x = _
  rw [h.sc]
  exact (gl_of g).1
theorem CO.name (h : CO T C S X hx W) {x : Str} {p : Pos} (g : glC S.sc x = true) {v : V} {u : Value} (r : RelV v u) (hm : X.mg x = some u ∨ (X.mg x = none ∧ bootBuiltins x = some u)) : PE X (.Name x p) (tC v) := by
  have q := gl_of g
  rcases hm with hm | ⟨hm, hb⟩
  · exact pe_glob (h.gl g) hm r q.2.1
  · exact pe_bltn (h.gl g) hm hb r q.2.2 q.2.1
theorem boot_ty {t : Str} (ht : t ∈ tyNames) : bootBuiltins t = some (.type t.toString) := by
  have c : t = "int" ∨ t = "bool" ∨ t = "str" ∨ t = "tuple" ∨ t = "list" := by simpa [tyNames] using ht
  rcases c with rfl | rfl | rfl | rfl | rfl <;> decide +kernel
/-- the built-in functions that are known -/
theorem bi_of (h : CO T C S X hx W) {x : Str} (hx' : x ∈ biNames) (hc : (S.cf || !(x == "all" || x == "any")) = true) : ∃ f, CallR X f (rBi X hx x) ∧ ((∃ id, f = .builtin id) ∨ ∃ T, f = .type T) ∧ bootBuiltins x = some f ∧ (x == ("isinstance" : Str)) = false := by
  have c : x = "len" ∨ x = "int" ∨ x = "abs" ∨ x = "all" ∨ x = "any" ∨ x = "tuple" ∨ x = "repr" ∨ x = "str" := by simpa [biNames] using hx'
  rcases c with rfl | rfl | rfl | rfl | rfl | rfl | rfl | rfl
  · exact ⟨_, cbi_len, .inl ⟨_, rfl⟩, by decide +kernel, by decide⟩
  · exact ⟨_, cbi_int, .inr ⟨_, rfl⟩, by decide +kernel, by decide⟩
  · exact ⟨_, cbi_abs, .inl ⟨_, rfl⟩, by decide +kernel, by decide⟩
  · have : S.cf = true := by simpa using hc
    exact ⟨_, cbi_all (h.calm this).1, .inl ⟨_, rfl⟩, by decide +kernel, by decide⟩
  · have : S.cf = true := by simpa using hc
    exact ⟨_, cbi_any (h.calm this).1, .inl ⟨_, rfl⟩, by decide +kernel, by decide⟩
  · exact ⟨_, cbi_tuple, .inr ⟨_, rfl⟩, by decide +kernel, by decide⟩
  · exact ⟨_, cbi_repr h.go.gd h.go.un, .inl ⟨_, rfl⟩, by decide +kernel, by decide⟩
  · exact ⟨_, cbi_str, .inr ⟨_, rfl⟩, by decide +kernel, by decide⟩
theorem pl_of (h : CO T C S X hx W) {m : Str} {o : E} {es : List E} {p q : Pos} (hm : (m == "index" || m == "count" || m == "join" || m == "split" || m == "startswith" || m == "endswith") = true) (ho : DOk X hx W C o) (hb : noCall0 o = true) (hline : (p.endLine == q.line) = true) (hne : es ≠ [])
    (hs : es.all (fun e => !isStar e) = true) (hl : es.length < 29) (hd : ∀ e ∈ es, DOk X hx W C e) : DOk X hx W C (.meth o m es p q) := by
  have c : m = "index" ∨ m = "count" ∨ m = "join" ∨ m = "split" ∨ m = "startswith" ∨ m = "endswith" := by simpa [or_assoc] using hm
  have hu := h.go.un
  rcases c with rfl | rfl | rfl | rfl | rfl | rfl
  · exact dok_V (m := plainMeth "index" (den C o) (dens C es)) rfl (.inl rfl) (pe_plainM F.plainAttrs_list F.slot_list_index F.type_list_index (cmt_index hu) ho hb hline hne hs hl hd)
  · exact dok_V (m := plainMeth "count" (den C o) (dens C es)) rfl (.inl rfl) (pe_plainM F.plainAttrs_list F.slot_list_count F.type_list_count (cmt_count hu) ho hb hline hne hs hl hd)
  · exact dok_V (m := plainMeth "join" (den C o) (dens C es)) rfl (.inl rfl) (pe_plainM F.plainAttrs_str F.slot_str_join F.type_str_join cmt_join ho hb hline hne hs hl hd)
  · exact dok_V (m := plainMeth "split" (den C o) (dens C es)) rfl (.inl rfl) (pe_plainM F.plainAttrs_str F.slot_str_split F.type_str_split cmt_split ho hb hline hne hs hl hd)
  · exact dok_V (m := plainMeth "startswith" (den C o) (dens C es)) rfl (.inl rfl) (pe_plainM F.plainAttrs_str F.slot_str_startswith F.type_str_startswith cmt_startswith ho hb hline hne hs hl hd)
  · exact dok_V (m := plainMeth "endswith" (den C o) (dens C es)) rfl (.inl rfl) (pe_plainM F.plainAttrs_str F.slot_str_endswith F.type_str_endswith cmt_endswith ho hb hline hne hs hl hd)
theorem mu_of {m : Str} {i : Nat} {x : Str} {es : List E} {pv p q : Pos} (hm : (m == "append" || m == "extend" || m == "reverse" || m == "pop") = true) (hN : X.N[i]? = some x) (hv : Vis X.env.scope x) (hd : (x == ("__debug__" : Str)) = false) (hcd : (x == ("__classdict__" : Str)) = false)
    (hline : (p.endLine == q.line) = true) (hs : es.all (fun e => !isStar e) = true) (hl : es.length < 29) (h : ∀ e ∈ es, DOk X hx W C e) : DOk X hx W C (.meth (.var i x pv) m es p q) := by
  have c : m = "append" ∨ m = "extend" ∨ m = "reverse" ∨ m = "pop" := by simpa [or_assoc] using hm
  rcases c with rfl | rfl | rfl | rfl
  · exact dok_V (m := mutM "append" i (dens C es)) rfl (.inl rfl) (pe_mutM F.slot_list_append F.type_list_append mt_append mut_append hN hv hd hcd hline hs hl h)
  · exact dok_V (m := mutM "extend" i (dens C es)) rfl (.inl rfl) (pe_mutM F.slot_list_extend F.type_list_extend mt_extend mut_extend hN hv hd hcd hline hs hl h)
  · exact dok_V (m := mutM "reverse" i (dens C es)) rfl (.inl rfl) (pe_mutM F.slot_list_reverse F.type_list_reverse mt_reverse mut_reverse hN hv hd hcd hline hs hl h)
  · exact dok_V (m := mutM "pop" i (dens C es)) rfl (.inl rfl) (pe_mutM F.slot_list_pop F.type_list_pop mt_pop mut_pop hN hv hd hcd hline hs hl h)
theorem var_of (h : CO T C S X hx W) {i : Nat} {x : Str} (c : varC S i x = true) : X.N[i]? = some x ∧ Vis X.env.scope x ∧ (x == ("__debug__" : Str)) = false ∧ (x == ("__classdict__" : Str)) = false := by
  unfold varC at c
  simp only [Bool.and_eq_true, decide_eq_true_eq, Bool.not_eq_true'] at c
  exact ⟨by rw [h.N]; exact c.1.1.1, by rw [h.sc]; exact vis_of c.1.1.2, by simpa using c.1.2, by simpa using c.2⟩
/-! ### targets -/
theorem pgs_nilZ : PGs X [] (RdGs (gOf X hx) W [] (asgns [])) := PGs.weak pgs_nil fun vs σ H Q ⟨A0, σ0, H0, A, ds, T', hT, st, kp, r, q⟩ => by
  cases ds with
  | nil => exact ⟨r.nil_inv, GoS.pure q st kp⟩
  | cons d r => exact q.elim
theorem assign_star {e : E} (h : okG S e = true) (es : List Expr) (env : PySem.Env) : assignEach (toX e :: es) env = (false, assign (toX e) env) :: assignEach es env := by
  cases e <;> first | rfl | cases h
theorem RdG.wide {g : G} {T1 T2 : List Nat} {gm : O → M Unit} {v : V} {σ : L2.St} {H : Hp} {Q : L2.St → Hp → Prop} (hT : ∀ i, i ∈ T1 → i ∈ T2) (h : RdG g W T2 gm v σ H Q) : RdG g W T1 gm v σ H Q := by
  obtain ⟨A0, σ0, H0, A, o, L, T', h1, q⟩ := h
  exact ⟨A0, σ0, H0, A, o, L, T', fun i hi => h1 i (hT i hi), q⟩
theorem pgs_consZ {e : E} {es : List E} (h1 : PG X (toX e) (RdG (gOf X hx) W (tset e) (den C e).g)) (h2 : PGs X (toXs es) (RdGs (gOf X hx) W (tsets es) (asgns (dens C es)))) (hs : okG S e = true) :
    PGs X (toXs (e :: es)) (RdGs (gOf X hx) W (tsets (e :: es)) (asgns (dens C (e :: es)))) := by
  refine PGs.weak (pgs_cons h1 h2 (by rw [assign_star hs] <;> rfl)) fun vs σ H Q ⟨A0, σ0, H0, A, ds, T', hT, st, kp, r, q⟩ => ?_
  cases ds with
  | nil => exact q.elim
  | cons d ds =>
    obtain ⟨v, vs', rfl, r1, r2⟩ := r.inv
    refine ⟨v, vs', rfl, ?_⟩
    have q1 := GoS.into (T1 := T') (fun _ z => z) q st kp
    refine ⟨A, σ, H, A, .frz d, [], T', fun i hi => hT i (List.mem_append_left _ hi), .refl st.sim, .refl, ⟨r1, rfl⟩, ⟨fun _ z => absurd z List.not_mem_nil, fun _ z => absurd z List.not_mem_nil⟩, q1.mono fun _ B σ1 H1 st1 kp1 q2 => ?_⟩
    exact ⟨A0, σ0, H0, B, ds, T', fun i hi => hT i (List.mem_append_right _ hi), st.trans st1, kp.trans kp1, r2.ext st1.fr.ext, q2⟩
theorem toXs_len : ∀ es : List E, (toXs es).length = es.length
  | [] => rfl
  | e :: r => by show (toXs r).length + 1 = _; rw [toXs_len r] <;> rfl
theorem assign_len : ∀ {es : List E} {env : PySem.Env}, okGs S es = true → (assignEach (toXs es) env).length = es.length ∧ (assignEach (toXs es) env).findIdx? (·.1) = none
  | [], env, _ => ⟨rfl, rfl⟩
  | e :: r, env, h => by
    have h : (okG S e && okGs S r) = true := h
    simp only [Bool.and_eq_true] at h
    obtain ⟨a, b⟩ := assign_len (env := env) h.2
    have e1 : assignEach (toXs (e :: r)) env = (false, assign (toX e) env) :: assignEach (toXs r) env := assign_star h.1 _ _
    rw [e1]
    refine ⟨by simp [a], ?_⟩
    rw [List.findIdx?_cons]
    simp only [Bool.false_eq_true, if_false]
    rw [b] <;> rfl
mutual
theorem pg_ok (h : CO T C S X hx W) : ∀ (e : E), okG S e = true → PG X (toX e) (RdG (gOf X hx) W (tset e) (den C e).g)
  | .var i x p, c => by
    have c : (decide (S.N[i]? = some x) && locC S.sc x && (S.tf x || lclC S.sc x)) = true := c
    simp only [Bool.and_eq_true, decide_eq_true_eq, Bool.or_eq_true] at c
    exact pg_varG (by rw [h.N]; exact h.nd) (by rw [h.N]; exact c.1.1) (by rw [h.sc]; exact loc_of c.1.2) (c.2.imp (h.tf x) fun z => by rw [h.sc]; exact lcl_of z)
  | .tup es k p, c => by
    have c : (S.cf && okGs S es) = true := c
    simp only [Bool.and_eq_true] at c
    have pgs := pgs_ok h es c.2
    have al := assign_len (env := X.env) c.2
    refine PG.weak (pg_tup (h.calm c.1).1 pgs al.1 al.2) fun v σ H Q ⟨A0, σ0, H0, A, o, L, T', hT, st, kp, ow, ap, q⟩ => ?_
    have q : GoS (gOf X hx) W T' σ0 A0 H0 (tupG (dens C es) o A.env) fun _ B σ' H' => Q σ' H' := q
    cases o with
    | frz d =>
      cases d with
      | tup xs =>
        have q : GoS (gOf X hx) W T' σ0 A0 H0 ((if (dens C es).length = xs.length then asgns (dens C es) xs else M.stuck) A.env) fun _ B σ' H' => Q σ' H' := q
        by_cases hl : (dens C es).length = xs.length
        · rw [if_pos hl] at q
          obtain ⟨r, _⟩ := ow
          simp only [Rp] at r
          obtain ⟨a, ys, rfl, h1, h2⟩ := r
          exact ⟨a, ys, rfl, st.sim.sqT h1, by rw [← h2.length, ← hl, dens_len], A0, σ0, H0, A, xs, T', hT, st, kp, h2, q⟩
        · rw [if_neg hl] at q; exact q.elim
      | _ => exact q.elim
    | _ => exact q.elim
  | .non _ _, c => nomatch c
  | .bl _ _ _, c => nomatch c
  | .int _ _ _, c => nomatch c
  | .str _ _ _, c => nomatch c
  | .glb _ _, c => nomatch c
  | .bin _ _ _ _, c => nomatch c
  | .neg _ _, c => nomatch c
  | .nt _ _, c => nomatch c
  | .band _ _, c => nomatch c
  | .bor _ _, c => nomatch c
  | .cmp _ _ _ _, c => nomatch c
  | .chn _ _ _ _ _ _, c => nomatch c
  | .chn3 _ _ _ _ _ _ _ _, c => nomatch c
  | .ife _ _ _ _, c => nomatch c
  | .call _ _ _ _, c => nomatch c
  | .bi _ _ _ _, c => nomatch c
  | .calle _ _ _, c => nomatch c
  | .meth _ _ _ _ _, c => nomatch c
  | .attr _ _ _, c => nomatch c
  | .sub _ _ _, c => nomatch c
  | .slc _ _ _ _ _ _, c => nomatch c
  | .lst _ _, c => nomatch c
  | .star _ _, c => nomatch c
  | .dic _ _ _, c => nomatch c
  | .lc _ _ _ _ _ _ _, c => nomatch c
  | .lc2 _ _ _ _ _ _ _ _ _, c => nomatch c
  | .dc _ _ _ _ _ _ _ _, c => nomatch c
theorem pgs_ok (h : CO T C S X hx W) : ∀ (es : List E), okGs S es = true → PGs X (toXs es) (RdGs (gOf X hx) W (tsets es) (asgns (dens C es)))
  | [], _ => pgs_nilZ
  | e :: r, c => by
    have c : (okG S e && okGs S r) = true := c
    simp only [Bool.and_eq_true] at c
    exact pgs_consZ (pg_ok h e c.1) (pgs_ok h r c.2) c.1
end
end
end Z
end

section
set_option Elab.async false
set_option linter.all false
set_option maxRecDepth 100000
set_option maxHeartbeats 1000000
/-! ZOk2: every checked expression does what its reading tells. -/
namespace Z
open PySem L2
section
variable {T : Tb} {C : Cxt}
theorem pts_ok {X : Cx} {hx : HX} {W : WX} : ∀ {ifs : List E}, ifs.length ≤ 1 → (∀ e ∈ ifs, DOk X hx W C e) → (ifs.all fun e => !isIfe e) = true → PTs X (toXs ifs) (RdT (gOf X hx) W (ifsM (dens C ifs)))
  | [], _, _, _ => ⟨fun pins s σ H Q I ⟨A, S, q⟩ => pts_nil.run pins s σ H Q I (Go.pure S q)⟩
  | [c], _, h, hi => by
    have hi' : isIfe c = false := by simpa using hi
    have p := pts_one ((h c List.mem_cons_self).t hi')
    refine ⟨fun pins s σ H Q I ⟨A, S, q⟩ => p.run pins s σ H Q I ⟨A, S, (Go.split q).mono fun b B H1 st q1 => ?_⟩⟩
    cases b with
    | true => exact Go.pure st.sim q1
    | false => exact Go.pure st.sim q1
  | a :: b :: r, h, _, _ => absurd h (by simp)
theorem all_ife {es : List E} (h : (es.all fun e => !isIfe e) = true) : ∀ e ∈ es, isIfe e = false := fun e he => by
  have := List.all_eq_true.mp h e he
  simpa using this
theorem all_walk {es : List E} (h : (es.all fun e => !isWalkE e) = true) : ∀ e ∈ es, isWalkE e = false := fun e he => by
  have := List.all_eq_true.mp h e he
  simpa using this
theorem ne_of {es : List E} (h : (!es.isEmpty) = true) : es ≠ [] := by
  cases es with
  | nil => cases h
  | cons a r => simp
/-- what a comprehension's block needs -/
theorem lc_parts {S : Sc} {X : Cx} {hx : HX} {W : WX} (h : CO T C S X hx W) {el tg : E} {ifs : List E} {own : List Nat} {sc : Scope} (hc : S.cf = true) (hb : blkC S.N S.sc sc (ownOf S own) = true) (hg : okG (S.blk sc) tg = true) (ht : (tset tg).all (fun i => decide (i ∈ own)) = true) (hl : ifs.length ≤ 1) (hi : (ifs.all fun e => !isIfe e) = true)
    (hifs : ∀ {S : Sc} {X : Cx} {W : WX}, CO T C S X hx W → okEs T S ifs = true → ∀ e ∈ ifs, DOk X hx W C e) (hifk : okEs T (S.blk sc) ifs = true) (hel : ∀ {S : Sc} {X : Cx} {W : WX}, CO T C S X hx W → okE T S el = true → DOk X hx W C el) (hek : okE T (S.blk sc) el = true) :
    BlkOk X.N X.env.scope sc (ownOf S own) ∧
    (∀ (s : Shared) (H : Hp) (Cl : Addr) (cl : List (Str × Addr)) (fp : List Addr), PG (X.blk s H sc (compEnvC sc cl Cl X.env) fp) (toX tg) (RdG (gOf X hx) WF own (den C tg).g)) ∧
    (∀ (s : Shared) (H : Hp) (Cl : Addr) (cl : List (Str × Addr)) (fp : List Addr), PTs (X.blk s H sc (compEnvC sc cl Cl X.env) fp) (toXs ifs) (RdT (gOf X hx) WF (ifsM (dens C ifs)))) ∧
    (∀ (s : Shared) (H : Hp) (Cl : Addr) (cl : List (Str × Addr)) (fp : List Addr), PE (X.blk s H sc (compEnvC sc cl Cl X.env) fp) (toX el) (RdV (gOf X hx) WF (den C el).v)) := by
  refine ⟨by rw [h.N, h.sc]; exact blkOk_by hb, fun s H Cl cl fp => ?_, fun s H Cl cl fp => ?_, fun s H Cl cl fp => ?_⟩
  · refine PG.weak (pg_ok (h.blk hc s H sc Cl cl fp) tg hg) fun v σ H Q q => RdG.wide (fun i hi => ?_) q
    exact of_decide_eq_true (List.all_eq_true.mp ht i hi)
  · exact pts_ok hl (hifs (h.blk hc s H sc Cl cl fp) hifk) hi
  · exact (hel (h.blk hc s H sc Cl cl fp) hek).v
mutual
theorem dok_ok : ∀ (e : E) {S : Sc} {X : Cx} {hx : HX} {W : WX}, CO T C S X hx W → okE T S e = true → DOk X hx W C e
  | .non _ _, _, _, _, _, _, _ => dok_non
  | .bl _ _ _, _, _, _, _, _, _ => dok_bl
  | .int _ _ _, _, _, _, _, _, _ => dok_int
  | .str z _ _, _, _, _, _, _, c => dok_str (Nat.le_trans (of_decide_eq_true (show decide (z.length ≤ 1000000) = true from c)) (by decide))
  | .var i x p, S, _, _, _, h, c => by
    obtain ⟨h1, h2, h3, h4⟩ := var_of h (show varC S i x = true from c)
    exact dok_var h1 h2 h3 h4
  | .glb x p, S, X, hx, W, h, c => dok_glb fun d e => by
    obtain ⟨v, u, r, rv, hm⟩ := h.go.con x d e
    exact ⟨v, r, h.name (show glC S.sc x = true from c) rv hm⟩
  | .bin op a b p, S, _, _, _, h, c => by
    have c : (okE T S a && okE T S b) = true := c
    simp only [Bool.and_eq_true] at c
    exact dok_bin (dok_ok a h c.1) (dok_ok b h c.2)
  | .neg a p, S, _, _, _, h, c => dok_neg (dok_ok a h (show okE T S a = true from c))
  | .nt a p, S, _, _, _, h, c => by
    have c : (okE T S a && !isIfe a) = true := c
    simp only [Bool.and_eq_true, Bool.not_eq_true'] at c
    exact dok_nt (dok_ok a h c.1) c.2
  | .band es p, S, _, _, _, h, c => by
    have c : (!es.isEmpty && okEs T S es && es.all fun e => !isIfe e) = true := c
    rw [Bool.and_eq_true, Bool.and_eq_true] at c
    exact dok_band (ne_of c.1.1) (doks_ok es h c.1.2) (all_ife c.2)
  | .bor es p, S, _, _, _, h, c => by
    have c : (!es.isEmpty && okEs T S es && es.all fun e => !isIfe e) = true := c
    rw [Bool.and_eq_true, Bool.and_eq_true] at c
    exact dok_bor (ne_of c.1.1) (doks_ok es h c.1.2) (all_ife c.2)
  | .cmp op a b p, S, _, _, _, h, c => by
    have c : (okE T S a && okE T S b) = true := c
    simp only [Bool.and_eq_true] at c
    exact dok_cmp h.go.un (dok_ok a h c.1) (dok_ok b h c.2)
  | .chn o1 o2 a b d p, S, _, _, _, h, c => by
    have c : (okE T S a && okE T S b && okE T S d) = true := c
    simp only [Bool.and_eq_true] at c
    exact dok_chn h.go.un (dok_ok a h c.1.1) (dok_ok b h c.1.2) (dok_ok d h c.2)
  | .chn3 _ _ _ _ _ _ _ _, _, _, _, _, _, c => nomatch c
  | .ife d a b p, S, _, _, _, h, c => by
    have c : (okE T S d && !isIfe d && okE T S a && okE T S b) = true := c
    simp only [Bool.and_eq_true, Bool.not_eq_true'] at c
    exact dok_ife (dok_ok d h c.1.1.1) c.1.1.2 (dok_ok a h c.1.2) (dok_ok b h c.2)
  | .call x es p q, S, X, hx, W, h, c => by
    have c : (glC S.sc x && okEs T S es && es.all (fun e => !isStar e) && decide (T.fn x = some es.length) && (S.cf || T.hot x)) = true := c
    rw [Bool.and_eq_true, Bool.and_eq_true, Bool.and_eq_true, Bool.and_eq_true] at c
    obtain ⟨⟨⟨⟨c1, c2⟩, c3⟩, c4⟩, c5⟩ := c
    obtain ⟨k, f, fd, ps, Fz, Fh, hr, hb, hm, hk, hl⟩ := h.go.fn x es.length (of_decide_eq_true c4)
    have ds := doks_ok es h c2
    cases hcf : S.cf with
    | true => exact dok_call Fz hr h.go.gd (h.calm hcf) hb h.tk (h.gl c1) hm hk (gl_of c1).2.1 c3 hl.symm ds
    | false =>
      have hh : T.hot x = true := by simpa [hcf] using c5
      exact dok_call (Fh hh) hr h.go.gd (h.hot hcf) hb h.tk (h.gl c1) hm hk (gl_of c1).2.1 c3 hl.symm ds
  | .bi x es p q, S, X, hx, W, h, c => by
    have c : (okEs T S es && es.all (fun e => !isStar e) && glC S.sc x && T.bi x && biC T S x es) = true := c
    rw [Bool.and_eq_true, Bool.and_eq_true, Bool.and_eq_true, Bool.and_eq_true] at c
    obtain ⟨⟨⟨⟨c1, c2⟩, c3⟩, c4⟩, c5⟩ := c
    have ds := doks_ok es h c1
    have hm := h.go.bi x c4
    by_cases hi : x = "isinstance"
    · subst hi
      have c5 : isiC T es = true := c5
      obtain ⟨a, t, p1, rfl, c5⟩ := isi_inv c5
      · have da := ds a List.mem_cons_self
        have hs : isStar a = false := by
          simp only [List.all_cons, Bool.and_eq_true, Bool.not_eq_true'] at c2
          exact c2.1
        have ct : glC S.sc t = true := by
          have c1 : (okE T S a && (okE T S (.glb t p1) && true)) = true := c1
          simp only [Bool.and_eq_true, and_true] at c1
          exact c1.2
        rcases Bool.or_eq_true .. |>.mp c5 with c6 | c6
        · rw [Bool.and_eq_true] at c6
          have ht := of_decide_eq_true c6.2
          exact dok_isiT h.hh (h.gl c3) hm da hs (h.name ct (show RelV (.ty t.toString) (.type t.toString) from rfl) (.inr ⟨h.go.bi t c6.1, boot_ty ht⟩)) ht (h.go.tyb t ht c6.1)
        · have hc := h.go.tcl t c6
          obtain ⟨Cl, hmC, _, hk⟩ := h.go.cls t hc
          refine dok_isiC (Ct := Cl) h.hh (h.gl c3) hm da hs (h.name ct (show RelV (.ref Cl) (.ref Cl) from rfl) (.inl hmC)) hc fun y Dl hy hyD => ?_
          obtain ⟨Cy, hCy, ec, _⟩ := h.go.cls y hy
          rw [hCy] at hyD
          cases hyD
          exact ⟨ec, (hk y Dl hy hCy).1⟩
    · unfold biC at c5
      rw [if_neg (by simpa using hi)] at c5
      by_cases hrg : x = "range"
      · subst hrg
        rw [if_pos (by decide), Bool.or_eq_true, decide_eq_true_eq, decide_eq_true_eq] at c5
        rcases c5 with hl | hl
        · obtain ⟨a, rfl⟩ := List.length_eq_one_iff.mp hl
          have hs : isStar a = false := by simpa using c2
          exact dok_range1 (h.gl c3) hm (ds a List.mem_cons_self) hs
        · obtain ⟨a, b, rfl⟩ := len_two hl
          have hs : isStar a = false ∧ isStar b = false := by simpa using c2
          exact dok_range2 (h.gl c3) hm (ds a List.mem_cons_self) hs.1 (ds b (List.mem_cons_of_mem _ List.mem_cons_self)) hs.2
      rw [if_neg (by simpa using hrg)] at c5
      rw [Bool.and_eq_true, Bool.and_eq_true, Bool.and_eq_true] at c5
      obtain ⟨⟨⟨d1, d2⟩, d3⟩, d4⟩ := c5
      obtain ⟨f, hc, hf, hv, hn⟩ := bi_of h (of_decide_eq_true d1) d4
      have hnw : isWalk x = false := by
        have c : x = "len" ∨ x = "int" ∨ x = "abs" ∨ x = "all" ∨ x = "any" ∨ x = "tuple" ∨ x = "repr" ∨ x = "str" := by simpa [biNames] using of_decide_eq_true d1
        rcases c with rfl | rfl | rfl | rfl | rfl | rfl | rfl | rfl <;> decide
      have e1 : den C (.bi x es p q) = mkV (biM C x es (dens C es)) := by
        show (if isWalk x = true then mkI M.stuck (walkM x (dens C es)) ((walkM x (dens C es)).bind fun ds => M.pure (.val (.lst ds))) else mkV (biM C x es (dens C es))) = _
        rw [if_neg (by rw [hnw]; decide)]
      exact dok_V e1 (.inl rfl) (pe_biV hc hf hv (h.gl c3) hm (gl_of c3).2.2 (gl_of c3).2.1 hn (ne_of d2) c2 ds (all_walk d3))
  | .calle f es q, S, X, hx, W, h, c => by
    have c : (S.cf && isSub f && okE T S f && okEs T S es && es.all (fun e => !isStar e) && !es.isEmpty) = true := c
    rw [Bool.and_eq_true, Bool.and_eq_true, Bool.and_eq_true, Bool.and_eq_true, Bool.and_eq_true] at c
    obtain ⟨⟨⟨⟨⟨c1, c2⟩, c3⟩, c4⟩, c5⟩, c6⟩ := c
    refine dok_calle (hot := false) (dok_ok f h c3) h.go.gd (h.calm c1) h.tk c5 (ne_of c6) (doks_ok es h c4) ?_ fun x e => ?_
    · cases f <;> first | (cases c2; done) | rfl
    · rw [h.go.ar] at e
      obtain ⟨k, a, fd, ps, Fz, _, hr, hb, hm, hk, hl⟩ := h.go.fn x es.length e
      exact ⟨k, a, fd, ps, Fz, hr, hb, hm, hk, hl⟩
  | .meth o m es p q, S, X, hx, W, h, c => by
    have c : ((p.endLine == q.line) && es.all (fun e => !isStar e) && decide (es.length < 29) && okEs T S es && (if isMut m then muC S m o else okE T S o && noCall0 o && !es.isEmpty && (m == "index" || m == "count" || m == "join" || m == "split" || m == "startswith" || m == "endswith"))) = true := c
    rw [Bool.and_eq_true, Bool.and_eq_true, Bool.and_eq_true, Bool.and_eq_true] at c
    obtain ⟨⟨⟨⟨c1, c2⟩, c3⟩, c4⟩, c5⟩ := c
    have ds := doks_ok es h c4
    cases hm : isMut m with
    | true =>
      rw [hm, if_pos rfl] at c5
      cases o with
      | var i x pv =>
        have c5 : (varC S i x && (m == "append" || m == "extend" || m == "reverse" || m == "pop")) = true := c5
        rw [Bool.and_eq_true] at c5
        obtain ⟨h1, h2, h3, h4⟩ := var_of h c5.1
        exact mu_of c5.2 h1 h2 h3 h4 c1 c2 (of_decide_eq_true c3) ds
      | _ => cases c5
    | false =>
      rw [hm, if_neg (by decide)] at c5
      rw [Bool.and_eq_true, Bool.and_eq_true, Bool.and_eq_true] at c5
      exact pl_of h c5.2 (dok_ok o h c5.1.1.1) c5.1.1.2 c1 (ne_of c5.1.2) c2 (of_decide_eq_true c3) ds
  | .attr _ _ _, _, _, _, _, _, c => nomatch c
  | .sub a i p, S, _, _, _, h, c => by
    have c : (okE T S a && okE T S i) = true := c
    simp only [Bool.and_eq_true] at c
    exact dok_sub h.go.un (dok_ok a h c.1) (dok_ok i h c.2)
  | .slc a lo hi st p q, S, _, _, _, h, c => by
    have c : (okE T S a && okEo T S lo && okEo T S hi && st.isNone) = true := c
    simp only [Bool.and_eq_true] at c
    cases st with
    | none => exact dok_slc (dok_ok a h c.1.1.1) (doko_ok lo h c.1.1.2) (doko_ok hi h c.1.2)
    | some e => cases c.2
  | .lst es p, S, _, _, _, h, c => by
    have c : (okEs T S es && es.all (fun e => !isStar e) && decide (es.length ≤ 1000)) = true := c
    rw [Bool.and_eq_true, Bool.and_eq_true] at c
    exact dok_lst c.1.2 (of_decide_eq_true c.2) (doks_ok es h c.1.1)
  | .tup es k p, S, _, _, _, h, c => by
    have c : (okEs T S es && es.all (fun e => !isStar e) && decide (es.length ≤ 1000)) = true := c
    rw [Bool.and_eq_true, Bool.and_eq_true] at c
    exact dok_tup c.1.2 (of_decide_eq_true c.2) (doks_ok es h c.1.1)
  | .star _ _, _, _, _, _, _, c => nomatch c
  | .dic _ _ _, _, _, _, _, _, c => nomatch c
  | .lc el tg it ifs own sc p, S, X, hx, W, h, c => by
    have c : (S.cf && okE T S it && blkC S.N S.sc sc (ownOf S own) && okG (S.blk sc) tg && (tset tg).all (fun i => decide (i ∈ own)) && okEs T (S.blk sc) ifs && ifs.all (fun e => !isIfe e) && decide (ifs.length ≤ 1) && okE T (S.blk sc) el) = true := c
    rw [Bool.and_eq_true, Bool.and_eq_true, Bool.and_eq_true, Bool.and_eq_true, Bool.and_eq_true, Bool.and_eq_true, Bool.and_eq_true, Bool.and_eq_true] at c
    obtain ⟨⟨⟨⟨⟨⟨⟨⟨c1, c2⟩, c3⟩, c4⟩, c5⟩, c6⟩, c7⟩, c8⟩, c9⟩ := c
    have di := dok_ok it h c2
    obtain ⟨b1, b2, b3, b4⟩ := lc_parts h c1 c3 c4 c5 (of_decide_eq_true c8) c7 (fun h' => doks_ok ifs h') c6 (fun h' => dok_ok el h') c9
    have pl := pe_lcZ (C := C) (p := p) (ow := ownOf S own) (h.calm c1).1 (by rw [h.N]; exact h.nd) b1 (di.i (toX tg)) (by rw [own_map]; exact b2) b3 b4
    rw [own_map] at pl
    exact dok_V (m := (den C it).it.bind fun xs => few xs (blkM own (lcM own (den C el) (den C tg) (dens C ifs) xs []))) rfl (.inl rfl) pl
  | .lc2 _ _ _ _ _ _ _ _ _, _, _, _, _, _, c => nomatch c
  | .dc _ _ _ _ _ _ _ _, _, _, _, _, _, c => nomatch c
theorem doks_ok : ∀ (es : List E) {S : Sc} {X : Cx} {hx : HX} {W : WX}, CO T C S X hx W → okEs T S es = true → ∀ e ∈ es, DOk X hx W C e
  | [], _, _, _, _, _, _, e, he => absurd he List.not_mem_nil
  | a :: r, S, _, _, _, h, c, e, he => by
    have c : (okE T S a && okEs T S r) = true := c
    rw [Bool.and_eq_true] at c
    have h1 := dok_ok a h c.1
    have h2 := doks_ok r h c.2
    rcases List.mem_cons.mp he with z | z
    · rw [z]; exact h1
    · exact h2 e z
theorem doko_ok : ∀ (o : Option E) {S : Sc} {X : Cx} {hx : HX} {W : WX}, CO T C S X hx W → okEo T S o = true → ∀ x, o = some x → DOk X hx W C x
  | none, _, _, _, _, _, _, x, e => by cases e
  | some a, S, _, _, _, h, c, x, e => by
    cases e
    exact dok_ok a h (show okE T S a = true from c)
end
end
end Z
end

section
set_option Elab.async false
set_option linter.all false
set_option maxRecDepth 100000
set_option maxHeartbeats 1000000
/-! ZOk3: every checked statement does what its reading tells. -/
namespace Z
open PySem L2
def isComp : E → Bool
  | .lc _ _ _ _ _ _ _ => true
  | .lc2 _ _ _ _ _ _ _ _ _ => true
  | .dc _ _ _ _ _ _ _ _ => true
  | _ => false
def isTupE : E → Bool
  | .tup _ _ _ => true
  | _ => false
/-- x = [..] on one line, x no name of the block's -/
def swB (sc : Scope) (y : Str) (py : Pos) (sc' : Scope) (p : Pos) : Bool :=
  (if sc.kind.isAnnotationScope then ScopeKind.function else sc.kind) == .function && sc.names.lookup y == some .local && py.line == p.line && !(sc'.names.any fun (n, k) => n == y && (k == .local || k == .cell))
/-- an assignment that is no comprehension's, no tuple's to a tuple -/
def okA (T : Tb) (S : Sc) (Ts : List Nat) (t e : E) : Bool := match t, e with
  | .var i y py, .lc el tg it ifs own sc p => okE T S (.lc el tg it ifs own sc p) && decide (S.N[i]? = some y) && decide (i ∈ Ts) && lclC S.sc y && swB S.sc y py sc p
  | t, e => okE T S e && okG S t && (tset t).all (fun i => decide (i ∈ Ts)) && !isComp e && !(isTupE t && isTupE e)
def oneStr : List E → Bool
  | [.str _ _ _] => true
  | _ => false
theorem str_inv {es : List E} (h : oneStr es = true) : ∃ m k p, es = [.str m k p] := by
  unfold oneStr at h
  split at h
  · exact ⟨_, _, _, rfl⟩
  · cases h
mutual
def stC (T : Tb) (S : Sc) (Ts : List Nat) : Z.S → Bool
  | .asg t e _ => okA T S Ts t e
  | .ret e _ => okE T S e
  | .retn _ => true
  | .ifs c a b _ => okE T S c && !isIfe c && stsC T S Ts a && stsC T S Ts b
  | .fors t it b _ => S.cf && okE T S it && okG S t && (tset t).all (fun i => decide (i ∈ Ts)) && stsC T S Ts b
  | .brk _ => true
  | .cnt _ => true
  | .pas _ => true
  | .expr e _ => okE T S e && !isComp e
  | .rais x es _ _ _ => S.cf && glC S.sc x && T.rai x && oneStr es
  | .tryx b x _ (some (i, n)) h _ _ => S.cf && decide (S.N[i]? = some n) && decide (i ∈ Ts) && lclC S.sc n && glC S.sc x && T.cls x && !h.isEmpty && stsC T S Ts b && stsC T { S with cf := false } Ts h
  | _ => false
def stsC (T : Tb) (S : Sc) (Ts : List Nat) : List Z.S → Bool
  | [] => true
  | s :: r => stC T S Ts s && stsC T S Ts r
end
structure CS (T : Tb) (C : Cxt) (S : Sc) (X : Cx) (hx : HX) (W : WX) : Prop extends CO T C S X hx W where
  stk : X.stack = X.env :: X.outer
  frm : X.env.frame = some X.env.locals
section
variable {T : Tb} {C : Cxt} {S : Sc} {X : Cx} {hx : HX} {W : WX} {Ts : List Nat}
theorem CS.tr (h : CS T C S X hx W) (hc : S.cf = true) {W' : WX} {pn : List (Addr × Obj)} {xe : Value → Shared → Prop} (tk : L2N.Takes (X.tr pn xe) W') (po : PassesOwn (model X.prog X.w) X.A X.env xe) : CS T C S (X.tr pn xe) hx W' :=
  ⟨⟨⟨h.go.un, h.go.gd, h.go.bi, h.go.fn, h.go.ar, h.go.con, h.go.tyb, h.go.tcl, h.go.cls, h.go.rai⟩, h.sc, h.N, h.nd, h.tf, h.calm, fun z => absurd (hc.symm.trans z) (by decide), fun a D d e => absurd ((h.calm hc).2.symm.trans e) (by simp), tk, po⟩, h.stk, h.frm⟩
theorem CS.suite (h : CS T C S X hx W) (hc : S.cf = true) {a : Addr} {oe : Obj} {Cl : Addr} {d : Option Addr} {pn : List (Addr × Obj)} (hz : L2N.Zn (.ref Cl) d oe) (hv : ∃ vs, oe.data = .fields vs) : CS T C { S with cf := false } (X.suite a ((a, oe) :: pn)) (some (a, Cl, d), hx.2) WF := by
  have hz' : Zc (.ref Cl) d oe := L2N.Zn.zc hz
  obtain ⟨vs, hvs⟩ := hv
  refine ⟨⟨⟨h.go.un, h.go.gd, h.go.bi, fun x n e => ?_, h.go.ar, fun x d e => ?_, h.go.tyb, h.go.tcl, h.go.cls, h.go.rai⟩, h.sc, h.N, h.nd, h.tf, fun z => Bool.noConfusion z, fun _ => ?_, fun a' D d' e => ?_, ?_, PassesOwn.never⟩, h.stk, h.frm⟩
  · obtain ⟨k, f, fd, ps, h1, h2, h3, h4⟩ := h.go.fn x n e
    exact ⟨k, f, fd, ps, h1, h2, ⟨h3.dp, h3.un⟩, h4⟩
  · obtain ⟨v, u, r, q⟩ := h.go.con x d e
    exact ⟨v, u, fun F => Rp.hx (g := gOf X hx) (r F), q⟩
  · refine ⟨(a, oe), Cl, d, List.mem_cons_self, rfl, hz', ⟨vs, hvs⟩, rfl, vs, hvs, hz.2.2 vs hvs⟩
  · cases e
    exact ⟨oe, List.mem_cons_self, hz', vs, hvs⟩
  · intro u s' hq
    obtain ⟨_, _, _, _, _, _, _, _, _, _, _, _, _, _, _, _, q⟩ := hq
    exact q.elim
theorem no_swap {e : E} (h : isComp e = false) (t : Option Expr) (l : Nat) (env : PySem.Env) : swapsWith (toX e) t l env = pure false := by
  cases e <;> first | rfl | cases h
theorem no_swap1 {t e : E} (h : isComp e = false) (l : Nat) (env : PySem.Env) : swapsWithSole [toX t] (toX e) l env = pure false := no_swap h _ l env
theorem no_swapped {t e : E} (hg : okG S t = true) (h : (isTupE t && isTupE e) = false) (env : PySem.Env) : swappedStores [toX t] (toX e) env = pure none := by
  cases t <;> first | (cases hg; done) | skip
  case var => cases e <;> rfl
  case tup => cases e <;> first | rfl | cases h
theorem sw_lc {el tg it : E} {ifs : List E} {own : List Nat} {sc : Scope} {p py : Pos} {y : Str} (l : Nat) (hs : X.env.scope = S.sc) (h : swB S.sc y py sc p = true) : swapsWith (toX (.lc el tg it ifs own sc p)) (some (.Name y py)) l X.env = pure true := by
  have e : swapsWith (toX (.lc el tg it ifs own sc p)) (some (.Name y py)) l X.env = pure (swB X.env.scope y py sc p) := rfl
  rw [e, hs, h]
theorem asg_ok {t e : E} {p : Pos} (h : CS T C S X hx W) (c : okA T S Ts t e = true) : PS X (toS (.asg t e p)) (RdS (gOf X hx) W Ts (exS C (.asg t e p))) := by
  have gen : (okE T S e && okG S t && (tset t).all (fun i => decide (i ∈ Ts)) && !isComp e && !(isTupE t && isTupE e)) = true → PS X (toS (.asg t e p)) (RdS (gOf X hx) W Ts (exS C (.asg t e p))) := fun c => by
    rw [Bool.and_eq_true, Bool.and_eq_true, Bool.and_eq_true, Bool.and_eq_true] at c
    obtain ⟨⟨⟨⟨c1, c2⟩, c3⟩, c4⟩, c5⟩ := c
    have c4 : isComp e = false := by simpa using c4
    have c5 : (isTupE t && isTupE e) = false := Bool.not_eq_true' _ |>.mp c5
    have ht : isTup2 t e = false := by
      cases t <;> cases e <;> first | rfl | cases c5
    refine ps_asgZ (dok_ok e h.toCO c1) (pg_ok h.toCO t c2) ht (fun i hi => of_decide_eq_true (List.all_eq_true.mp c3 i hi)) (no_swap1 c4 _ _) (no_swapped c2 c5 _) ?_
    rw [assign_star c2] <;> rfl
  unfold okA at c
  split at c
  · rename_i i y py el tg it ifs own sc q
    rw [Bool.and_eq_true, Bool.and_eq_true, Bool.and_eq_true, Bool.and_eq_true] at c
    obtain ⟨⟨⟨⟨c, d2⟩, d3⟩, d4⟩, d5⟩ := c
    have c : (S.cf && okE T S it && blkC S.N S.sc sc (ownOf S own) && okG (S.blk sc) tg && (tset tg).all (fun i => decide (i ∈ own)) && okEs T (S.blk sc) ifs && ifs.all (fun e => !isIfe e) && decide (ifs.length ≤ 1) && okE T (S.blk sc) el) = true := c
    rw [Bool.and_eq_true, Bool.and_eq_true, Bool.and_eq_true, Bool.and_eq_true, Bool.and_eq_true, Bool.and_eq_true, Bool.and_eq_true, Bool.and_eq_true] at c
    obtain ⟨⟨⟨⟨⟨⟨⟨⟨c1, c2⟩, c3⟩, c4⟩, c5⟩, c6⟩, c7⟩, c8⟩, c9⟩ := c
    have hco := h.toCO
    have di := dok_ok it hco c2
    obtain ⟨b1, b2, b3, b4⟩ := lc_parts hco c1 c3 c4 c5 (of_decide_eq_true c8) c7 (fun h' => doks_ok ifs h') c6 (fun h' => dok_ok el h') c9
    have hl : X.env.scope.names.lookup y = some .local := by rw [h.sc]; exact lcl_of d4
    have pl := ps_setLcZ (C := C) (p := q) (py := py) (sp := p) (i := i) (y := y) (ow := ownOf S own) (h.calm c1).1 (by rw [h.N]; exact h.nd) b1 (by rw [h.N]; exact of_decide_eq_true d2) hl (sw_lc p.line h.sc d5) (di.i (toX tg)) (by rw [own_map]; exact b2) b3 b4
    have fin := asg_lc (T := Ts) (C := C) (hx := hx) (W := W) (fun j e => by rw [e]; exact of_decide_eq_true d3) pl
    rw [own_map] at fin
    exact fin
  · exact gen c
mutual
theorem st_ok : ∀ (s : Z.S) {S : Sc} {X : Cx} {hx : HX} {W : WX}, CS T C S X hx W → stC T S Ts s = true → PS X (toS s) (RdS (gOf X hx) W Ts (exS C s))
  | .asg t e p, S, _, _, _, h, c => asg_ok h c
  | .aug _ _ _ _, _, _, _, _, _, c => nomatch c
  | .ret e p, S, _, _, _, h, c => ps_retZ (dok_ok e h.toCO (show okE T S e = true from c))
  | .retn p, _, _, _, _, _, _ => ps_retnZ
  | .ifs d a b p, S, _, _, _, h, c => by
    have c : (okE T S d && !isIfe d && stsC T S Ts a && stsC T S Ts b) = true := c
    simp only [Bool.and_eq_true, Bool.not_eq_true'] at c
    exact ps_ifZ (dok_ok d h.toCO c.1.1.1) c.1.1.2 (sts_ok a h c.1.2) (sts_ok b h c.2)
  | .fors t it b p, S, _, _, _, h, c => by
    have c : (S.cf && okE T S it && okG S t && (tset t).all (fun i => decide (i ∈ Ts)) && stsC T S Ts b) = true := c
    rw [Bool.and_eq_true, Bool.and_eq_true, Bool.and_eq_true, Bool.and_eq_true] at c
    obtain ⟨⟨⟨⟨c1, c2⟩, c3⟩, c4⟩, c5⟩ := c
    exact ps_forZ h.po (h.calm c1).1 (dok_ok it h.toCO c2) (pg_ok h.toCO t c3) (fun i hi => of_decide_eq_true (List.all_eq_true.mp c4 i hi)) (sts_ok b h c5)
  | .whl _ _ _, _, _, _, _, _, c => nomatch c
  | .brk p, _, _, _, _, _, _ => ps_brkZ
  | .cnt p, _, _, _, _, _, _ => ps_cntZ
  | .pas p, _, _, _, _, _, _ => ps_pasZ
  | .expr e p, S, _, _, _, h, c => by
    have c : (okE T S e && !isComp e) = true := c
    simp only [Bool.and_eq_true, Bool.not_eq_true'] at c
    exact ps_exprZ (dok_ok e h.toCO c.1) (no_swap c.2 _ _ _)
  | .rais x es p q r, S, X, hx, W, h, c => by
    have c : (S.cf && glC S.sc x && T.rai x && oneStr es) = true := c
    rw [Bool.and_eq_true, Bool.and_eq_true, Bool.and_eq_true] at c
    obtain ⟨⟨⟨c1, c2⟩, c3⟩, c4⟩ := c
    obtain ⟨m, k, p2, rfl⟩ := str_inv c4
    obtain ⟨hf, Cl, B, newId, initId, bmB, F, hq, hm, hk, hr⟩ := h.go.rai x c3
    exact ps_raisZ (h.calm c1).1 h.tk hm hf (L2N.pmk_own F hq hm hk hr (h.toCO.gl c2) (gl_of c2).2.1)
  | .tryx b x px none hd ph p, _, _, _, _, _, c => nomatch c
  | .tryx b x px (some (i, n)) hd ph p, S, X, hx, W, h, c => by
    have c : (S.cf && decide (S.N[i]? = some n) && decide (i ∈ Ts) && lclC S.sc n && glC S.sc x && T.cls x && !hd.isEmpty && stsC T S Ts b && stsC T { S with cf := false } Ts hd) = true := c
    rw [Bool.and_eq_true, Bool.and_eq_true, Bool.and_eq_true, Bool.and_eq_true, Bool.and_eq_true, Bool.and_eq_true, Bool.and_eq_true, Bool.and_eq_true] at c
    obtain ⟨⟨⟨⟨⟨⟨⟨⟨c1, c2⟩, c3⟩, c4⟩, c5⟩, c6⟩, c7⟩, c8⟩, c9⟩ := c
    obtain ⟨Cl, hm, _, hk⟩ := h.go.cls x (h.go.tcl x c6)
    have hne : hd ≠ [] := by
      cases hd with
      | nil => cases c7
      | cons a r => simp
    refine ps_tryZ (c := .ref Cl) h.stk h.frm (by rw [h.N]; exact h.nd) (by rw [h.N]; exact of_decide_eq_true c2) ?_ ⟨h.toCO.gl c5, (gl_of c5).2.1, .inl hm⟩ h.tk (of_decide_eq_true c3) hne (fun y Dl hy hyc => (hk y Dl hyc hy).2) (fun W' pn xe tk po => sts_ok b (h.tr c1 tk po) c8) fun a oe Cl' d pn hz hv => sts_ok hd (h.suite c1 hz hv) c9
    show X.env.scope.names.lookup n = _
    rw [h.sc]; exact lcl_of c4
theorem sts_ok : ∀ (ss : List Z.S) {S : Sc} {X : Cx} {hx : HX} {W : WX}, CS T C S X hx W → stsC T S Ts ss = true → PSs X (toSs ss) (RdS (gOf X hx) W Ts (exSs C ss))
  | [], _, _, _, _, _, _ => pss_nilZ
  | s :: r, S, _, _, _, h, c => by
    have c : (stC T S Ts s && stsC T S Ts r) = true := c
    rw [Bool.and_eq_true] at c
    exact pss_consZ (st_ok s h c.1) (sts_ok r h c.2)
end
end
end Z
end

section
set_option Elab.async false
set_option linter.all false
set_option maxRecDepth 100000
set_option maxHeartbeats 1000000
/-! ZBody: a def's promise, from its body. -/
namespace Z
open PySem L2
/-- what comes back, place by place -/
structure OutAt (s : Env) (args : List O) (fs : List Bool) (i : Nat) (os : List O) : Prop where
  len : os.length = args.length
  own : ∀ (j : Nat) (o : O), args[j]? = some o → o.own = true → fs[j]? = some true ∧ ∃ u, getO s (i + j) = some u ∧ os[j]? = some u
  frz : ∀ (j : Nat) (o : O), args[j]? = some o → o.own = false → os[j]? = some o
theorem out_at : ∀ {s : Env} {args : List O} {fs : List Bool} {i : Nat} {os : List O}, outs s args fs i = some os → OutAt s args fs i os
  | s, [], fs, i, os, h => by
    have e : [] = os := by simpa [outs] using h
    subst e
    exact ⟨rfl, fun j o z => by simp at z, fun j o z => by simp at z⟩
  | s, o :: args, fs, i, os, h => by
    have h : ((if o.own = true then (if fs.headD false = true then (getO s i).bind fun u => if u.own = true then some u else none else none) else some o).bind fun u => (outs s args fs.tail (i + 1)).map (u :: ·)) = some os := h
    rw [Option.bind_eq_some_iff] at h
    obtain ⟨u, h1, h2⟩ := h
    rw [Option.map_eq_some_iff] at h2
    obtain ⟨os', h2, rfl⟩ := h2
    have ih := out_at h2
    refine ⟨by simp [ih.len], fun j p hp ho => ?_, fun j p hp ho => ?_⟩
    · cases j with
      | zero =>
        have e : o = p := by simpa using hp
        subst e
        rw [if_pos ho] at h1
        by_cases hf : fs.headD false = true
        · rw [if_pos hf, Option.bind_eq_some_iff] at h1
          obtain ⟨w, g1, g2⟩ := h1
          by_cases hw : w.own = true
          · rw [if_pos hw] at g2
            cases g2
            refine ⟨?_, _, by simpa using g1, rfl⟩
            cases fs with
            | nil => cases hf
            | cons b r =>
              have : b = true := hf
              simp [this]
          · rw [if_neg hw] at g2; cases g2
        · rw [if_neg hf] at h1; cases h1
      | succ j =>
        obtain ⟨q1, w, q2, q3⟩ := ih.own j p (by simpa using hp) ho
        refine ⟨?_, w, by rw [show i + (j + 1) = i + 1 + j by omega]; exact q2, by simpa using q3⟩
        cases fs with
        | nil => simp at q1
        | cons b r => simpa using q1
    · cases j with
      | zero =>
        have e : o = p := by simpa using hp
        subst e
        rw [if_neg (by rw [ho]; decide)] at h1
        cases h1; rfl
      | succ j => simpa using ih.frz j p (by simpa using hp) ho
section
variable {g : G} {W : WX} {A0 : Ab} {H H' : Hp} {vs : List V} {N : List Str}
/-- a body begins: the parameters have the arguments, all else nothing -/
theorem sim_start {os : List O} (S : Sm g A0 (vs.map some) H) (e : A0.env = os.map some) (hl : vs.length ≤ N.length) : Sm g ⟨A0.F, os.map some ++ List.replicate (N.length - os.length) none, A0.fp⟩ (L2.start N vs) H := by
  have lo : os.length = vs.length := by
    have := S.len
    rw [e] at this
    simpa using this
  refine ⟨S.sub, S.pl, S.ls, S.scu, ?_, fun j o q => ?_, fun j q => ?_, S.dis⟩
  · show (os.map some ++ List.replicate (N.length - os.length) none).length = (L2.start N vs).length
    unfold L2.start
    simp [lo]
  · have q : (os.map some ++ List.replicate (N.length - os.length) none)[j]? = some (some o) := q
    by_cases hj : j < os.length
    · rw [List.getElem?_append_left (by simpa using hj)] at q
      obtain ⟨v, h1, h2⟩ := S.slot j o (by rw [e]; exact q)
      refine ⟨v, ?_, h2⟩
      unfold L2.start
      rw [List.getElem?_append_left (by simpa [← lo] using hj)]
      exact h1
    · rw [List.getElem?_append_right (by simpa using hj), List.getElem?_replicate] at q
      split at q <;> cases q
  · refine S.emp j fun o z => q o ?_
    rw [e] at z
    have hj : j < os.length := by
      have := (List.getElem?_eq_some_iff.mp z).1
      simpa using this
    show (os.map some ++ List.replicate (N.length - os.length) none)[j]? = some (some o)
    rw [List.getElem?_append_left (by simpa using hj)]
    exact z
/-- a body ends: what the lent arguments are, as the caller sees it -/
theorem body_back {os outs' : List O} {fl : List Bool} {Ts : List Nat} {B1 : Ab} {σ' : L2.St} (S : Sm g A0 (vs.map some) H) (e : A0.env = os.map some) (hl : vs.length ≤ N.length)
    (st : Step g ⟨A0.F, os.map some ++ List.replicate (N.length - os.length) none, A0.fp⟩ H B1 σ' H') (kp : Kp Ts (L2.start N vs) σ') (ho : outs B1.env os fl 0 = some outs') (hT : ∀ j, fl[j]? = some true → j ∉ Ts) :
    ∃ B : Ab, B.env = outs'.map some ∧ B.F = B1.F ∧ Step g A0 H B (vs.map some) H' ∧ ∀ L : List Addr, Apt ⟨A0.F, os.map some ++ List.replicate (N.length - os.length) none, A0.fp⟩ H B1 L → Apt A0 H B L := by
  have lo : os.length = vs.length := by
    have := S.len
    rw [e] at this
    simpa using this
  have oa := out_at ho
  let fpB : Nat → List Addr := fun j => if (os[j]?).any O.own = true then B1.fp j else []
  have fin : ∀ {j : Nat} {a : Addr}, a ∈ fpB j → a ∈ B1.fp j := fun {j a} h => by
    have h : a ∈ (if (os[j]?).any O.own = true then B1.fp j else []) := h
    split at h
    · exact h
    · simp at h
  refine ⟨⟨B1.F, outs'.map some, fpB⟩, rfl, rfl, ⟨st.fr, ⟨st.sim.sub, st.sim.pl, st.sim.ls, st.sim.scu, by show (outs'.map some).length = _; simp [oa.len, lo], fun j o q => ?_, fun j q => ?_, fun i j a h1 h2 => st.sim.dis i j a (fin h1) (fin h2)⟩, fun a ⟨j, hj⟩ => st.sb a ⟨j, fin hj⟩⟩, fun L ap => ⟨fun a ha ⟨j, hj⟩ => ap.1 a ha ⟨j, fin hj⟩, ap.2⟩⟩
  · have q : (outs'.map some)[j]? = some (some o) := q
    have hj : j < os.length := by
      have := (List.getElem?_eq_some_iff.mp q).1
      simpa [oa.len] using this
    have q : outs'[j]? = some o := by
      rw [List.getElem?_map] at q
      cases z : outs'[j]? with
      | none => rw [z] at q; cases q
      | some u => rw [z] at q; cases q; rfl
    obtain ⟨v, h1, h2⟩ := S.slot j os[j] (by rw [e, List.getElem?_map, List.getElem?_eq_getElem hj] <;> rfl)
    refine ⟨v, h1, ?_⟩
    show Ow g B1.F H' o v (if (os[j]?).any O.own = true then B1.fp j else [])
    cases hw : (os[j]).own with
    | true =>
      obtain ⟨f1, u, f2, f3⟩ := oa.own j _ (List.getElem?_eq_getElem hj) hw
      rw [q] at f3
      cases f3
      rw [if_pos (by rw [List.getElem?_eq_getElem hj]; exact hw)]
      obtain ⟨w, g1, g2⟩ := st.sim.slot j o (getO_some (by simpa using f2))
      have g3 := kp.at' j (hT j f1)
      rw [g1] at g3
      have g4 : (L2.start N vs)[j]? = some (some v) := by
        unfold L2.start
        rw [List.getElem?_append_left (by simpa [← lo] using hj)]
        exact h1
      rw [g4] at g3
      cases g3
      exact g2
    | false =>
      have f3 := oa.frz j _ (List.getElem?_eq_getElem hj) hw
      rw [q] at f3
      cases f3
      rw [if_neg (by rw [List.getElem?_eq_getElem hj]; show ¬ (os[j]).own = true; rw [hw]; decide)]
      have hL : A0.fp j = [] := by
        cases ho : os[j] with
        | frz d => rw [ho] at h2; exact h2.2
        | exc c x => rw [ho] at h2; exact h2.1
        | lst _ => rw [ho] at hw; cases hw
        | dct _ => rw [ho] at hw; cases hw
        | ins _ _ => rw [ho] at hw; cases hw
      rw [hL] at h2
      exact h2.fr st.fr fun a ha => absurd ha List.not_mem_nil
  · show (if (os[j]?).any O.own = true then B1.fp j else []) = []
    cases z : os[j]? with
    | none => rfl
    | some o =>
      have hj : j < outs'.length := by rw [oa.len]; exact (List.getElem?_eq_some_iff.mp z).1
      exact absurd (by show (outs'.map some)[j]? = some (some outs'[j]); rw [List.getElem?_map, List.getElem?_eq_getElem hj] <;> rfl) (q outs'[j])
end
/-- what a module tells; the defs up to k calls deep -/
structure Mo (T : Tb) (C : Cxt) (P : Program) (w : World) (K : PySem.W.Frag) (mg : Str → Option Value) (base : Heap) (k : Nat) : Prop where
  bi : ∀ x, T.bi x = true → mg x = none
  fn : ∀ x n, T.fn x = some n → ∃ (f : Addr) (fd : FuncData) (ps : List Str), FnZ P w K mg base false k f fd ps (C.call x) ∧ (T.hot x = true → FnZ P w K mg base true k f fd ps (C.call x)) ∧ Binds K fd ps [] ∧ mg x = some (.ref f) ∧ PySem.W.keepIn K (.ref f) = true ∧ ps.length = n
  ar : ∀ x, C.ar x = T.fn x
  con : ∀ x d, C.con x = some d → ∃ (v : V) (u : Value), (∀ (hx : HX) F, Rp ⟨K, mg, w, hx.1, hx.2⟩ F d v) ∧ RelV v u ∧ (mg x = some u ∨ (mg x = none ∧ bootBuiltins x = some u))
  tyb : ∀ t, t ∈ tyNames → T.bi t = true → C.cls t = false
  tcl : ∀ x, T.cls x = true → C.cls x = true
  cls : ∀ x, C.cls x = true → ∃ Cl : Addr, mg x = some (.ref Cl) ∧ ExcC K Cl ∧ ∀ y Dl, C.cls y = true → mg y = some (.ref Dl) → PySem.W.kitOne K (.ref Dl) (.ref Cl) = some (C.sub y x) ∧ PySem.W.exmOne K (.ref Dl) (.ref Cl) = some (C.sub y x)
  rai : ∀ x, T.rai x = true → C.fld x = none ∧ ∃ (Cl : Addr) (B newId initId : String) (bmB : List Value), PySem.ExcBaseFacts B newId initId bmB ∧ PySem.W.excIn K Cl bmB newId = true ∧ mg x = some (.ref Cl) ∧ PySem.W.keepIn K (.ref Cl) = true ∧
    ∀ (M : Model) (h : Heap), K.In h → PySem.W.Looks M h (isSubtype (.ref Cl) (.type "BaseException")) true ∧ PySem.W.Looks M h (typeOf (.ref Cl)) (.type "type")
section
variable {T : Tb} {C : Cxt} {P : Program} {w : World} {K : PySem.W.Frag} {mg : Str → Option Value} {base : Heap} {k : Nat}
/-- a def's result, and what is wished of it -/
theorem run_body {g : G} {fn : Fn} {os : List O} {vs : List V} {A0 : Ab} {H : Hp} {Q : VK} {E : XK} {Ts : List Nat} (S : Sm g A0 (vs.map some) H) (e : A0.env = os.map some) (hl : vs.length ≤ fn.ns.length) (hT : ∀ j, fn.lent[j]? = some true → j ∉ Ts)
    (h : match runFn C fn os with
      | .ok r outs => ∀ B H' v L, B.env = outs.map some → Step g A0 H B (vs.map some) H' → Ow g B.F H' r v L → Apt A0 H B L → Q v H'
      | .ex x outs => ∀ B H' d Cl, B.env = outs.map some → Step g A0 H B (vs.map some) H' → XO x d B.F → g.mg x.c = some (.ref Cl) → E (.ref Cl) d H'
      | .st => False) (hnp : os.length = fn.np) :
    RdS g (fun cls d _ H => E cls d H) Ts (exSs C fn.body) { nx := fun _ H' => Q .non H', rt := Q } (L2.start fn.ns vs) H := by
  have S1 := sim_start (N := fn.ns) S e hl
  refine RdS.mk (A0 := ⟨A0.F, os.map some ++ List.replicate (fn.ns.length - os.length) none, A0.fp⟩) (A := ⟨A0.F, os.map some ++ List.replicate (fn.ns.length - os.length) none, A0.fp⟩) (T' := Ts) (fun _ z => z) (.refl S1) .refl ?_
  unfold runFn at h
  rw [if_pos hnp, ← hnp] at h
  dsimp only
  cases eb : exSs C fn.body (os.map some ++ List.replicate (fn.ns.length - os.length) none) with
  | st => rw [eb] at h; exact h
  | ex x s =>
    rw [eb] at h
    dsimp only at h
    cases eo : outs s os fn.lent 0 with
    | none => rw [eo] at h; exact h.elim
    | some outs' =>
      rw [eo] at h
      dsimp only at h
      intro B1 σ' H' d Cl eB st kp xo hm
      subst eB
      obtain ⟨B, b1, b2, b3, _⟩ := body_back S e hl st kp eo hT
      exact h B H' d Cl b1 b3 (by rw [b2]; exact xo) hm
  | ok r s =>
    rw [eb] at h
    dsimp only at h
    cases eo : outs s os fn.lent 0 with
    | none => rw [eo] at h; exact h.elim
    | some outs' =>
      rw [eo] at h
      dsimp only at h
      intro B1 σ' H' eB st kp
      subst eB
      obtain ⟨B, b1, b2, b3, b4⟩ := body_back S e hl st kp eo hT
      cases r with
      | rt o => exact fun v L ow ap => h B H' v L b1 b3 (by rw [b2]; exact ow) (b4 L ap)
      | nx => exact h B H' .non [] b1 b3 ⟨by simp only [Rp], rfl⟩ ⟨fun _ z => absurd z List.not_mem_nil, fun _ z => absurd z List.not_mem_nil⟩
      | bk => exact h.elim
      | ct => exact h.elim
/-- the context of a body, warm or not -/
def cxZ (hot : Bool) (P : Program) (w : World) (K : PySem.W.Frag) (mg : Str → Option Value) (base : Heap) (N : List Str) (qual : Str) (scope : Scope) (f : Addr) (cd : Value) (A : Around) (outer : List PySem.Env) (s : Shared) (H : Hp) (E : XK) (pn : List (Addr × Obj)) : Cx :=
  { cxOf (L2N.CX P w) P w K mg base N qual scope f cd A outer s H E with calm := !hot, pn := pn }
theorem cs_body {hot : Bool} {N : List Str} {qual : Str} {scope : Scope} {f : Addr} {cd : Value} {A : Around} {outer : List PySem.Env} {s : Shared} {H : Hp} {E : XK} {pn : List (Addr × Obj)} {hx : HX} (M : Mo T C P w K mg base k) (nd : N.Nodup) (hr : Rm (k + 1) A) (hg : A.guards = some [])
    (wm : Warm hot A outer H s hx pn) : CS T C ⟨scope, N, fun _ => true, !hot⟩ (cxZ hot P w K mg base N qual scope f cd A outer s H E pn) hx (fun cls d _ H => E cls d H) := by
  have hu := hr.un
  refine ⟨⟨⟨?_, hg, M.bi, fun x n e => ?_, M.ar, fun x d e => ?_, M.tyb, M.tcl, M.cls, M.rai⟩, rfl, rfl, nd, fun _ _ => rfl, fun hc => ?_, fun hc => ?_, fun a D d e => ?_, ?_, PassesOwn.leaving⟩, rfl, rfl⟩
  · show A.units + 3 + 300 < cLine
    omega
  · obtain ⟨f, fd, ps, h1, h2, h3, h4, h5, h6⟩ := M.fn x n e
    exact ⟨k, f, fd, ps, h1, h2, hr.deeper _, h3, h4, h5, h6⟩
  · obtain ⟨v, u, r, q⟩ := M.con x d e
    exact ⟨v, u, r hx, q⟩
  · cases hot with
    | false => exact ⟨rfl, wm.2.1⟩
    | true => cases hc
  · cases hot with
    | false => cases hc
    | true =>
      obtain ⟨p, D, d, rfl, e, hz, hv, ht, _⟩ := wm
      exact ⟨p, D, d, List.mem_cons_self, e, hz, hv, ht⟩
  · cases hot with
    | false => rw [wm.2.1] at e; cases e
    | true =>
      obtain ⟨p, D', d', rfl, e', hz, hv, ht, _⟩ := wm
      rw [e'] at e
      cases e
      exact ⟨p.2, List.mem_cons_self, hz, hv⟩
  · exact L2N.takes_of (X := cxZ hot P w K mg base N qual scope f cd A outer s H E pn) (E := E) rfl rfl rfl rfl
open PySem.Spec PyProof.Rows in
theorem inv_Z {hot : Bool} {N ps : List Str} {qual : Str} {scope : Scope} {f : Addr} {cd : Value} {A : Around} {outer : List PySem.Env} {s s1 : Shared} {H : Hp} {E : XK} {pn : List (Addr × Obj)} {hx : HX} {us : List Value} {vs : List V} (Sf : FnScope N ps scope) (wm : Warm hot A outer H s hx pn) (e0 : Env0 P w K mg base A outer s H) (hl : vs.length = ps.length) (r : Vals vs us)
    (x : InCallC s s.heap.objs.size (bindL (PyProof.Rows.envOfC qual scope s.heap.objs.size f cd).kindOf (ps.zip us) fun _ => none) (cellsFrom (s.heap.objs.size + 1) scope.names []) (bindC (PyProof.Rows.envOfC qual scope s.heap.objs.size f cd).kindOf (ps.zip us) fun _ => none) s1) :
    L2.Inv (cxZ hot P w K mg base N qual scope f cd A outer s H E pn) [] (L2.start N vs) H s1 := by
  cases hot with
  | false =>
    obtain ⟨hd, _, rfl⟩ := wm
    exact inv_start (CX := L2N.CX P w) (E := E) Sf hd e0 hl r x
  | true =>
    obtain ⟨p, _, _, rfl, _, _, _, _, hp⟩ := wm
    exact L2H.inv_startH (CX := L2N.CX P w) (E := E) Sf hp e0 hl r x
open PySem.Spec PyProof.Rows in
theorem fn_Z {hot : Bool} {f : Addr} {name qual : Str} {params : Arguments} {scope : Scope} {dV kV doc pm cdv ct oc : Value} {an od : Option Addr} {osl : Array (Option Value)} {ps : List Str} {fn : Fn} {body : List Stmt} {Ts : List Nat} (M : Mo T C P w K mg base k)
    (lk : K.lookup f = some ⟨oc, od, .func (PySem.W.fnOf name qual params body scope dV kV doc pm an cdv ct), osl⟩) (hcd : PySem.W.codeIn K cdv qual = true) (Sf : FnScope fn.ns ps scope) (hb : toSs fn.body = body)
    (ck : stsC T ⟨scope, fn.ns, fun _ => true, !hot⟩ Ts fn.body = true) (hT : ∀ j, fn.lent[j]? = some true → j ∉ Ts) (hnp : fn.np = ps.length) (hle : ps.length ≤ fn.ns.length) :
    FnZ P w K mg base hot (k + 1) f (PySem.W.fnOf name qual params body scope dV kV doc pm an cdv ct) ps (runFn C fn) := by
  refine ⟨fun A outer s H args us vs Q E hx pn hr hg wm e0 hbi r hlen sp => ?_⟩
  have inK : K.In s.heap := e0.mod.kin.keeps fun b o q => (e0.bs b o q).1
  have noL : s.heap.NoLimit := e0.mod.nolimit.keeps fun b o q => (e0.bs b o q).1
  have room : A.depth < recursionLimit := by have := hr.dp; omega
  have kinds : ∀ y ∈ ps.zip us, scope.names.lookup y.1 = some .local ∨ (scope.names.lookup y.1 = some .cell ∧ ((cellsFrom (s.heap.objs.size + 1) scope.names []).lookup y.1).isSome = true) := fun y hy => by
    obtain ⟨n, v⟩ := y
    have hn := (List.of_mem_zip hy).1
    exact (Sf.par n hn).imp id fun q => ⟨q, PySem.W.cellsFrom_some _ _ _ (.inl q)⟩
  refine codeAny_call_function room (inK _ _ lk) rfl Sf.co Sf.gen rfl (PySem.W.codeRec_of inK hcd) (hbi _ _ _ _ ?_)
  refine wpAny_newFunctionEnv_cells Sf.kind kinds fun env he s1 x => ?_
  subst he
  refine ⟨noL.keeps x.toInCall.keep, codeAny_func ?_⟩
  obtain ⟨A0, os, e1, S0, hres⟩ := sp
  have cs := cs_body (qual := qual) (f := f) (cd := cdv) (scope := scope) (E := E) M Sf.nd hr hg wm
  have run := sts_ok (Ts := Ts) fn.body cs ck
  have hos : os.length = fn.np := by
    have h1 := S0.len
    rw [e1] at h1
    have h2 : os.length = vs.length := by simpa using h1
    rw [h2, hlen, hnp]
  have rd := run_body (g := ⟨K, mg, w, hx.1, hx.2⟩) (fn := fn) (Q := Q) (E := E) S0 e1 (by rw [hlen]; exact hle) hT hres hos
  have J := inv_Z (E := E) (qual := qual) (f := f) (cd := cdv) Sf wm e0 hlen r x
  have w1 := run.run [] s1 (L2.start fn.ns vs) H { nx := fun _ H' => Q .non H', rt := Q } J rd
  rw [hb] at w1
  refine wpAny_mono w1 (fun fl s' hs => ?_) fun e s' hs => hs
  match fl, hs with
  | .ret u, hs =>
    obtain ⟨v, σ', H', I', rv, q⟩ := hs
    exact ⟨v, H', I'.os, I'.bare, I'.base, I'.hok, rv, q⟩
  | .next, hs =>
    obtain ⟨σ', H', I', q⟩ := hs
    exact ⟨V.non, H', I'.os, I'.bare, I'.base, I'.hok, rfl, q⟩
  | .brk, hs =>
    obtain ⟨_, _, _, q⟩ := hs
    exact q.elim
  | .cont, hs =>
    obtain ⟨_, _, _, q⟩ := hs
    exact q.elim
end
end Z
end

section
set_option Elab.async false
set_option linter.all false
set_option maxRecDepth 100000
set_option maxHeartbeats 1000000
/-! ZProg: all defs of a module, up to any number of calls within one another. -/
namespace Z
open PySem L2
/-- a def, as it stands in the written part; checked -/
structure DefZ (T : Tb) (K : PySem.W.Frag) (mg : Str → Option Value) (x : Str) (fn : Fn) : Prop where
  ex : ∃ (f : Addr) (name qual : Str) (params : Arguments) (scope : Scope) (dV kV doc pm cdv ct oc : Value) (an od : Option Addr) (osl : Array (Option Value)) (ps : List Str) (body : List Stmt) (Ts : List Nat),
    K.lookup f = some ⟨oc, od, .func (PySem.W.fnOf name qual params body scope dV kV doc pm an cdv ct), osl⟩ ∧ PySem.W.codeIn K cdv qual = true ∧ FnScope fn.ns ps scope ∧ toSs fn.body = body ∧
    stsC T ⟨scope, fn.ns, fun _ => true, true⟩ Ts fn.body = true ∧ (T.hot x = true → stsC T ⟨scope, fn.ns, fun _ => true, false⟩ Ts fn.body = true) ∧ (∀ j, fn.lent[j]? = some true → j ∉ Ts) ∧ fn.np = ps.length ∧ ps.length ≤ fn.ns.length ∧
    Binds K (PySem.W.fnOf name qual params body scope dV kV doc pm an cdv ct) ps [] ∧ mg x = some (.ref f) ∧ PySem.W.keepIn K (.ref f) = true ∧ T.fn x = some ps.length
/-- what a module's other names are -/
structure NamesZ (T : Tb) (Pz : Prog) (w : World) (K : PySem.W.Frag) (mg : Str → Option Value) : Prop where
  bi : ∀ x, T.bi x = true → mg x = none
  con : ∀ x d, Pz.con.lookup x = some d → ∃ (v : V) (u : Value), (∀ (hx : HX) F, Rp ⟨K, mg, w, hx.1, hx.2⟩ F d v) ∧ RelV v u ∧ (mg x = some u ∨ (mg x = none ∧ bootBuiltins x = some u))
  tyb : ∀ t, t ∈ tyNames → T.bi t = true → (Pz.sup.lookup t).isSome = false
  tcl : ∀ x, T.cls x = true → (Pz.sup.lookup x).isSome = true
  cls : ∀ x, (Pz.sup.lookup x).isSome = true → ∃ Cl : Addr, mg x = some (.ref Cl) ∧ ExcC K Cl ∧ ∀ y Dl, (Pz.sup.lookup y).isSome = true → mg y = some (.ref Dl) → PySem.W.kitOne K (.ref Dl) (.ref Cl) = some (supOf Pz.sup 6 y x) ∧ PySem.W.exmOne K (.ref Dl) (.ref Cl) = some (supOf Pz.sup 6 y x)
  rai : ∀ x, T.rai x = true → Pz.fld.lookup x = none ∧ ∃ (Cl : Addr) (B newId initId : String) (bmB : List Value), PySem.ExcBaseFacts B newId initId bmB ∧ PySem.W.excIn K Cl bmB newId = true ∧ mg x = some (.ref Cl) ∧ PySem.W.keepIn K (.ref Cl) = true ∧
    ∀ (M : Model) (h : Heap), K.In h → PySem.W.Looks M h (isSubtype (.ref Cl) (.type "BaseException")) true ∧ PySem.W.Looks M h (typeOf (.ref Cl)) (.type "type")
theorem call_succ {Pz : Prog} {n : Nat} {x : Str} {fn : Fn} (h : Pz.fns.lookup x = some fn) (args : List O) : Pz.call (n + 1) x args = runFn (Pz.cxt (Pz.call n)) fn args := by
  simp only [Prog.call, h]
theorem prog_Z {T : Tb} {Pz : Prog} {P : Program} {w : World} {K : PySem.W.Frag} {mg : Str → Option Value} {base : Heap} (hd : ∀ x n, T.fn x = some n → ∃ fn, Pz.fns.lookup x = some fn ∧ DefZ T K mg x fn) (hn : NamesZ T Pz w K mg) (ha : ∀ x, (Pz.fns.lookup x).map (·.np) = T.fn x) :
    ∀ n, Mo T (Pz.cxt (Pz.call n)) P w K mg base n
  | 0 => by
    refine ⟨hn.bi, fun x m e => ?_, ha, hn.con, hn.tyb, hn.tcl, hn.cls, hn.rai⟩
    obtain ⟨fn, _, f, name, qual, params, scope, dV, kV, doc, pm, cdv, ct, oc, an, od, osl, ps, body, Ts, _, _, _, _, _, _, _, _, _, hb, hm, hk, hf⟩ := hd x m e
    rw [e] at hf
    cases hf
    have no : ∀ hot, FnZ P w K mg base hot 0 f (PySem.W.fnOf name qual params body scope dV kV doc pm an cdv ct) ps ((Pz.cxt (Pz.call 0)).call x) := fun hot => ⟨fun A outer s H args us vs Q E hx pn _ _ _ _ _ _ _ ⟨_, _, _, _, q⟩ => q.elim⟩
    exact ⟨f, _, ps, no false, fun _ => no true, hb, hm, hk, rfl⟩
  | n + 1 => by
    have M := prog_Z (base := base) (P := P) hd hn ha n
    refine ⟨hn.bi, fun x m e => ?_, ha, hn.con, hn.tyb, hn.tcl, hn.cls, hn.rai⟩
    obtain ⟨fn, hl, f, name, qual, params, scope, dV, kV, doc, pm, cdv, ct, oc, an, od, osl, ps, body, Ts, lk, hcd, Sf, hbd, ck, ckh, hT, hnp, hle, hb, hm, hk, hf⟩ := hd x m e
    rw [e] at hf
    cases hf
    have hF : (Pz.cxt (Pz.call (n + 1))).call x = runFn (Pz.cxt (Pz.call n)) fn := by
      funext args
      exact call_succ hl args
    rw [hF]
    exact ⟨f, _, ps, fn_Z (hot := false) M lk hcd Sf hbd ck hT hnp hle, fun h => fn_Z (hot := true) M lk hcd Sf hbd (ckh h) hT hnp hle, hb, hm, hk, rfl⟩
end Z
end

section
set_option Elab.async false
set_option linter.all false
set_option maxRecDepth 100000
set_option maxHeartbeats 1000000
/-! ZX: our syntax, read off the kit's; the annotations forgotten. -/
namespace Z
open PySem L2
def bopOf : Operator → Option Bop
  | .Add => some .add | .Sub => some .sub | .Mult => some .mul | .FloorDiv => some .fdv | .Mod => some .mod | .Pow => some .pow | .LShift => some .shl | .RShift => some .shr | .BitAnd => some .band
  | _ => none
def copOf : CmpOp → Cop
  | .Eq => .eq | .NotEq => .ne | .Lt => .lt | .LtE => .le | .Gt => .gt | .GtE => .ge | .Is => .isx | .IsNot => .isn | .In => .inx | .NotIn => .nin
def biAll : List Str := ["len", "int", "abs", "all", "any", "tuple", "repr", "str", "isinstance", "sum", "sorted", "list", "min", "max", "dict", "range", "zip", "enumerate", "reversed"]
def ownN (N : List Str) (sc : Scope) : List Nat := sc.names.filterMap fun p => if p.2 == .local || p.2 == .cell then N.idxOf? p.1 else none
def nameOf (N : List Str) (x : Str) (p : Pos) : E := match N.idxOf? x with
  | some i => .var i x p
  | none => .glb x p
mutual
def ofX (N : List Str) : Expr → E
  | .Constant .none k p => .non k p
  | .Constant (.bool b) k p => .bl b k p
  | .Constant (.int i) k p => .int i k p
  | .Constant (.str s) k p => .str s k p
  | .Name x p => nameOf N x p
  | .BinOp a op b p => match bopOf op with
    | some o => .bin o (ofX N a) (ofX N b) p
    | none => default
  | .UnaryOp .USub a p => .neg (ofX N a) p
  | .UnaryOp .Not a p => .nt (ofX N a) p
  | .BoolOp .And es p => .band (ofXs N es) p
  | .BoolOp .Or es p => .bor (ofXs N es) p
  | .Compare a ops es p => match ops, ofXs N es with
    | [o], [b] => .cmp (copOf o) (ofX N a) b p
    | [o1, o2], [b, c] => .chn (copOf o1) (copOf o2) (ofX N a) b c p
    | [o1, o2, o3], [b, c, d] => .chn3 (copOf o1) (copOf o2) (copOf o3) (ofX N a) b c d p
    | _, _ => default
  | .IfExp c a b p => .ife (ofX N c) (ofX N a) (ofX N b) p
  | .Call f es _ q => match ofX N f with
    | .glb x p => if x ∈ biAll then .bi x (ofXs N es) p q else .call x (ofXs N es) p q
    | .attr o m p => .meth o m (ofXs N es) p q
    | g => .calle g (ofXs N es) q
  | .Attribute o m p => .attr (ofX N o) m p
  | .Subscript a i q => match ofX N i with
    | .slc _ lo hi st p _ => .slc (ofX N a) lo hi st p q
    | j => .sub (ofX N a) j q
  | .Slice lo hi st p => .slc default (ofXo N lo) (ofXo N hi) (ofXo N st) p p
  | .List es p => .lst (ofXs N es) p
  | .Tuple es k p => .tup (ofXs N es) k p
  | .Starred e p => .star (ofX N e) p
  | .ListComp el gs sc p => match ofGs N gs with
    | [(tg, it, ifs)] => .lc (ofX N el) tg it ifs (ownN N sc) sc p
    | [(tg, it, _), (tg2, it2, ifs2)] => .lc2 (ofX N el) tg it tg2 it2 ifs2 (ownN N sc) sc p
    | _ => default
  | _ => default
def ofXs (N : List Str) : List Expr → List E
  | [] => []
  | e :: r => ofX N e :: ofXs N r
def ofXo (N : List Str) : Option Expr → Option E
  | none => none
  | some e => some (ofX N e)
def ofG (N : List Str) : Comprehension → E × E × List E
  | ⟨tg, it, ifs, _⟩ => (ofX N tg, ofX N it, ofXs N ifs)
def ofGs (N : List Str) : List Comprehension → List (E × E × List E)
  | [] => []
  | g :: r => ofG N g :: ofGs N r
end
mutual
def ofS (N : List Str) : Stmt → S
  | .Assign ts e p => match ofXs N ts with
    | [t] => .asg t (ofX N e) p
    | _ => default
  | .AugAssign t op e p => match bopOf op with
    | some o => .aug (ofX N t) o (ofX N e) p
    | none => default
  | .Return (some e) p => .ret (ofX N e) p
  | .Return none p => .retn p
  | .If c a b p => .ifs (ofX N c) (ofSs N a) (ofSs N b) p
  | .For t it b _ p => .fors (ofX N t) (ofX N it) (ofSs N b) p
  | .While c b _ p => .whl (ofX N c) (ofSs N b) p
  | .Break p => .brk p
  | .Continue p => .cnt p
  | .Pass p => .pas p
  | .Expr e p => .expr (ofX N e) p
  | .Raise (some e) _ r => match ofX N e with
    | .call x es p q => .rais x es p q r
    | _ => default
  | .Try b hs _ _ p => match ofHs N hs with
    | [(x, px, n, h, ph)] => .tryx (ofSs N b) x px (n.bind fun n => (N.idxOf? n).map fun i => (i, n)) h ph p
    | _ => default
  | _ => default
def ofSs (N : List Str) : List Stmt → List S
  | [] => []
  | s :: r => ofS N s :: ofSs N r
def ofH (N : List Str) : ExceptHandler → Str × Pos × Option Str × List S × Pos
  | .ExceptHandler ty n b p => match ty with
    | some (.Name x px) => (x, px, n, ofSs N b, p)
    | _ => ("", p, n, [], p)
def ofHs (N : List Str) : List ExceptHandler → List (Str × Pos × Option Str × List S × Pos)
  | [] => []
  | g :: r => ofH N g :: ofHs N r
end
/-! ### annotations forgotten -/
mutual
def erE : E → E
  | .non _ _ => .non 0 p0
  | .bl b _ _ => .bl b 0 p0
  | .int i _ _ => .int i 0 p0
  | .str s _ _ => .str s 0 p0
  | .var i x _ => .var i x p0
  | .glb x _ => .glb x p0
  | .bin op a b _ => .bin op (erE a) (erE b) p0
  | .neg a _ => .neg (erE a) p0
  | .nt a _ => .nt (erE a) p0
  | .band es _ => .band (erEs es) p0
  | .bor es _ => .bor (erEs es) p0
  | .cmp op a b _ => .cmp op (erE a) (erE b) p0
  | .chn o1 o2 a b c _ => .chn o1 o2 (erE a) (erE b) (erE c) p0
  | .chn3 o1 o2 o3 a b c d _ => .chn3 o1 o2 o3 (erE a) (erE b) (erE c) (erE d) p0
  | .ife c a b _ => .ife (erE c) (erE a) (erE b) p0
  | .call x es _ _ => .call x (erEs es) p0 p0
  | .bi x es _ _ => .bi x (erEs es) p0 p0
  | .calle f es _ => .calle (erE f) (erEs es) p0
  | .meth o m es _ _ => .meth (erE o) m (erEs es) p0 p0
  | .attr o m _ => .attr (erE o) m p0
  | .sub a i _ => .sub (erE a) (erE i) p0
  | .slc a lo hi st _ _ => .slc (erE a) (erEo lo) (erEo hi) (erEo st) p0 p0
  | .lst es _ => .lst (erEs es) p0
  | .tup es _ _ => .tup (erEs es) 0 p0
  | .star e _ => .star (erE e) p0
  | .dic ks vs _ => .dic (erEs ks) (erEs vs) p0
  | .lc el tg it ifs own _ _ => .lc (erE el) (erE tg) (erE it) (erEs ifs) own sc0 p0
  | .lc2 el tg it tg2 it2 ifs2 own _ _ => .lc2 (erE el) (erE tg) (erE it) (erE tg2) (erE it2) (erEs ifs2) own sc0 p0
  | .dc k v tg it ifs own _ _ => .dc (erE k) (erE v) (erE tg) (erE it) (erEs ifs) own sc0 p0
def erEs : List E → List E
  | [] => []
  | e :: r => erE e :: erEs r
def erEo : Option E → Option E
  | none => none
  | some e => some (erE e)
end
mutual
def erS : S → S
  | .asg t e _ => .asg (erE t) (erE e) p0
  | .aug t op e _ => .aug (erE t) op (erE e) p0
  | .ret e _ => .ret (erE e) p0
  | .retn _ => .retn p0
  | .ifs c a b _ => .ifs (erE c) (erSs a) (erSs b) p0
  | .fors t it b _ => .fors (erE t) (erE it) (erSs b) p0
  | .whl c b _ => .whl (erE c) (erSs b) p0
  | .brk _ => .brk p0
  | .cnt _ => .cnt p0
  | .pas _ => .pas p0
  | .expr e _ => .expr (erE e) p0
  | .rais x es _ _ _ => .rais x (erEs es) p0 p0 p0
  | .tryx b x _ n h _ _ => .tryx (erSs b) x p0 n (erSs h) p0 p0
def erSs : List S → List S
  | [] => []
  | s :: r => erS s :: erSs r
end
instance : Inhabited S := ⟨.brk p0⟩
end Z
end

section
set_option Elab.async false
set_option linter.all false
set_option maxRecDepth 100000
set_option maxHeartbeats 1000000
/-! ZHook: a module's names, checked by looking at the head's heap. -/
namespace Z
open PySem L2
/-! ### our Hook: a check, the defs, the tables -/
/-- no list is of the part that we look at: so the script is not -/
def isLs (o : Obj) : Bool := match o.data with
  | .seq _ _ => decide (o.cls = .type "list")
  | _ => false
def noL (g : Addr → Option Obj) (a : Addr) : Option Obj := match g a with
  | some o => (match isLs o with
    | true => none
    | false => some o)
  | none => none
theorem noL_at {g : Addr → Option Obj} {a : Addr} {o : Obj} (h : noL g a = some o) : g a = some o ∧ isLs o = false := by
  unfold noL at h
  split at h
  · split at h
    · cases h
    · rename_i q _ r
      cases h
      exact ⟨q, r⟩
  · cases h
def NoLs (K : PySem.W.Frag) : Prop := ∀ a o, K.lookup a = some o → isLs o = false
abbrev AlZ : Type := Bool × He.AlT
def obsZ (chk : PySem.W.Frag → Bool) (fn : List He.DefD) (ts : List He.Tab) (K : PySem.W.Frag) : AlZ := (chk K, He.obsT [] fn ts K)
def valZ (fn : List He.DefD) (ts : List He.Tab) (w : World) : AlZ := (true, He.valT fn ts w)
def obsZG (n : Nat) (chk : PySem.W.Frag → Bool) (fn : List He.DefD) (ts : List He.Tab) (g : Addr → Option Obj) : AlZ := obsZ chk fn ts (He.frG (noL g) (He.asD g n))
def SaysZ (chk : PySem.W.Frag → Bool) (fn : List He.DefD) (ts : List He.Tab) (w : World) (K : PySem.W.Frag) : Prop := obsZ chk fn ts K = valZ fn ts w
def hookZ (n : Nat) (chk : PySem.W.Frag → Bool) (fn : List He.DefD) (ts : List He.Tab) : PySem.W.Hook where
  α := AlZ
  obs := fun s => obsZG n chk fn ts s.heap.get?
  val := fun w => valZ fn ts w
  says := fun w h => ∃ K : PySem.W.Frag, K.In h ∧ NoLs K ∧ SaysZ chk fn ts w K
  of := fun _ s e => ⟨He.frG (noL s.heap.get?) (He.asD s.heap.get? n), fun _ _ h => (noL_at (He.frG_at (He.asD s.heap.get? n) h)).1, fun _ _ h => (noL_at (He.frG_at (He.asD s.heap.get? n) h)).2, e⟩
  keeps := fun _ _ _ ⟨K, hK, nl, c⟩ k => ⟨K, PySem.W.Frag.In.keeps hK k, nl, c⟩
theorem obsZG_eq {n : Nat} {chk : PySem.W.Frag → Bool} {fn : List He.DefD} {ts : List He.Tab} {g : Addr → Option Obj} {s : Shared} (h : ∀ a, g a = s.heap.get? a) : obsZG n chk fn ts g = (hookZ n chk fn ts).obs s := by
  have e : g = s.heap.get? := funext h
  rw [e] <;> rfl
theorem SaysZ.chk {chk : PySem.W.Frag → Bool} {fn : List He.DefD} {ts : List He.Tab} {w : World} {K : PySem.W.Frag} (c : SaysZ chk fn ts w K) : chk K = true := congrArg (fun z : AlZ => z.1) c
theorem SaysZ.t {chk : PySem.W.Frag → Bool} {fn : List He.DefD} {ts : List He.Tab} {w : World} {K : PySem.W.Frag} (c : SaysZ chk fn ts w K) : He.SaysT [] fn ts w K := congrArg (fun z : AlZ => z.2) c
/-! ### a table's names -/
theorem keyOf_mem {P : Params} {e : DictEntry} : ∀ {l : List DictEntry} {ks : List Str}, l.map He.keyOf = He.keysIn P ks → e ∈ l → ∃ k t, e.key = .str k t ∧ k ∈ ks
  | [], _, _, m => nomatch m
  | e0 :: r, [], h, _ => by cases h
  | e0 :: r, k :: ks, h, m => by
    have h1 : He.keyOf e0 :: r.map He.keyOf = some (k, PyData.keyHash P k) :: He.keysIn P ks := h
    injection h1 with h2 h3
    cases m with
    | head =>
      unfold He.keyOf at h2
      split at h2
      · rename_i x t q
        exact ⟨x, t, q, by rw [(Prod.mk.inj (Option.some.inj h2)).1]; exact List.mem_cons_self⟩
      · cases h2
    | tail _ m =>
      obtain ⟨k1, t, q, m1⟩ := keyOf_mem h3 m
      exact ⟨k1, t, q, List.mem_cons_of_mem _ m1⟩
theorem nsIn_tab {K : PySem.W.Frag} {P : Params} {a : Addr} {ks : List Str} (h : He.dicW K a = some (He.keysIn P ks)) (z : Str) : ∃ r, PySem.W.nsIn K a z = some r ∧ (r.isSome = true → z ∈ ks) := by
  unfold He.dicW at h
  split at h
  · rename_i c es n sl q
    split at h
    · have hk := Option.some.inj h
      unfold PySem.W.nsIn
      rw [q]
      dsimp only
      split
      · rename_i e f
        obtain ⟨k, t, e1, m⟩ := keyOf_mem hk (List.mem_of_find?_eq_some f)
        have f2 := List.find?_some f
        rw [e1] at f2
        have f3 : (k == z) = true := f2
        exact ⟨_, rfl, fun _ => (eq_of_beq f3) ▸ m⟩
      · have no : es.toList.any (·.refKey) = false := by
          rw [List.any_eq_false]
          intro e m
          obtain ⟨k, t, e1, _⟩ := keyOf_mem hk m
          unfold DictEntry.refKey
          rw [e1]
          exact Bool.false_ne_true
        rw [no]
        exact ⟨none, rfl, fun h => nomatch h⟩
    · cases h
  · cases h
/-! ### a written value -/
def vOf (u : Value) : V := (absV u).getD .non
mutual
def dB (K : PySem.W.Frag) : D → Value → Bool
  | .non, .none => true
  | .bl b, .bool c => b == c
  | .int i, .int j _ => decide (i = j)
  | .str s, .str t _ => decide (t = s) && decide (s.length ≤ LIM)
  | .fn x, .ref a => decide (PySem.W.nsIn K mainGlobals x = some (some (.ref a)))
  | .fn x, .type n => decide (PySem.W.nsIn K mainGlobals x = some none) && decide (bootBuiltins x = some (.type n))
  | .tup ds, .ref a => (match K.lookup a with
    | some ⟨.type c, _, .seq its _, _⟩ => decide (c = "tuple") && (decide (its.size ≤ sizeLine) && dsB K ds its.toList)
    | _ => false)
  | _, _ => false
def dsB (K : PySem.W.Frag) : List D → List Value → Bool
  | [], [] => true
  | d :: r, u :: us => dB K d u && dsB K r us
  | _, _ => false
end
section
variable {K : PySem.W.Frag} {h : Heap} {mg : Str → Option Value} {w : World}
mutual
theorem dB_ok (X : K.In h) (G : h.Ns mainGlobals mg) : ∀ (d : D) (u : Value), dB K d u = true → RelV (vOf u) u ∧ ∀ hx sc F, Rp ⟨K, mg, w, hx, sc⟩ F d (vOf u)
  | .non, .none, _ => ⟨rfl, fun _ _ _ => by simp only [Rp]; rfl⟩
  | .bl b, .bool c, e => by
    have e1 : (b == c) = true := by simpa only [dB] using e
    cases eq_of_beq e1
    exact ⟨rfl, fun _ _ _ => by simp only [Rp]; rfl⟩
  | .int i, .int j t, e => by
    have e1 : i = j := of_decide_eq_true (by simpa only [dB] using e)
    cases e1
    exact ⟨⟨t, rfl⟩, fun _ _ _ => by simp only [Rp]; rfl⟩
  | .str s, .str z t, e => by
    obtain ⟨e1, e2⟩ := He.ba (show (decide (z = s) && decide (s.length ≤ LIM)) = true by simpa only [dB] using e)
    cases of_decide_eq_true e1
    exact ⟨⟨t, rfl⟩, fun _ _ _ => by simp only [Rp]; exact ⟨rfl, of_decide_eq_true e2⟩⟩
  | .fn x, .ref a, e => by
    have e1 : PySem.W.nsIn K mainGlobals x = some (some (.ref a)) := of_decide_eq_true (by simpa only [dB] using e)
    exact ⟨rfl, fun _ _ _ => by simp only [Rp]; exact .inl ⟨a, PySem.W.mg_of X G e1, rfl⟩⟩
  | .fn x, .type n, e => by
    obtain ⟨e1, e2⟩ := He.ba (show (decide (PySem.W.nsIn K mainGlobals x = some none) && decide (bootBuiltins x = some (.type n))) = true by simpa only [dB] using e)
    exact ⟨rfl, fun _ _ _ => by simp only [Rp]; exact .inr ⟨PySem.W.mg_none_of X G (of_decide_eq_true e1), n, of_decide_eq_true e2, rfl⟩⟩
  | .tup ds, .ref a, e => by
    unfold dB at e
    split at e
    · rename_i c od its n sl q
      obtain ⟨e1, e2⟩ := He.ba e
      obtain ⟨e3, e4⟩ := He.ba e2
      obtain ⟨r1, r2⟩ := dsB_ok X G ds its.toList e4
      refine ⟨rfl, fun hx sc F => ?_⟩
      simp only [Rp]
      exact ⟨a, _, rfl, .inr ⟨_, its, n, q, congrArg Value.type (of_decide_eq_true e1), rfl, of_decide_eq_true e3, r1⟩, r2 hx sc F⟩
    · cases e
theorem dsB_ok (X : K.In h) (G : h.Ns mainGlobals mg) : ∀ (ds : List D) (us : List Value), dsB K ds us = true → Vals (us.map vOf) us ∧ ∀ hx sc F, Rps ⟨K, mg, w, hx, sc⟩ F ds (us.map vOf)
  | [], [], _ => ⟨.nil, fun _ _ _ => by simp only [Rps]; rfl⟩
  | d :: r, u :: us, e => by
    obtain ⟨e1, e2⟩ := He.ba (show (dB K d u && dsB K r us) = true by simpa only [dsB] using e)
    obtain ⟨a1, a2⟩ := dB_ok X G d u e1
    obtain ⟨b1, b2⟩ := dsB_ok X G r us e2
    exact ⟨.cons a1 b1, fun hx sc F => by simp only [Rps]; exact ⟨_, _, rfl, a2 hx sc F, b2 hx sc F⟩⟩
end
/-- a written dict's values -/
def wB (K : PySem.W.Frag) (a : Addr) : List (D × D) → Bool
  | [] => true
  | (k, d) :: r => (match k with
    | .str z => (match PySem.W.nsIn K a z with
      | some (some u) => dB K d u
      | _ => false)
    | _ => false) && wB K a r
theorem wB_ok (X : K.In h) (G : h.Ns mainGlobals mg) {a : Addr} : ∀ kvs : List (D × D), wB K a kvs = true → ∀ hx sc F, RpW ⟨K, mg, w, hx, sc⟩ F a kvs
  | [], _, _, _, _ => by simp only [RpW]
  | (k, d) :: r, e, hx, sc, F => by
    unfold wB at e
    obtain ⟨e1, e2⟩ := He.ba e
    simp only [RpW]
    refine ⟨?_, wB_ok X G r e2 hx sc F⟩
    split at e1
    · rename_i z
      split at e1
      · rename_i u q
        obtain ⟨a1, a2⟩ := dB_ok (w := w) X G d u e1
        exact ⟨z, u, _, rfl, q, a1, a2 hx sc F⟩
      · cases e1
    · cases e1
/-- one name's value -/
def conB (K : PySem.W.Frag) (q : Str × D) : Bool := match PySem.W.nsIn K mainGlobals q.1 with
  | some (some u) => dB K q.2 u
  | some none => (match bootBuiltins q.1 with
    | some u => dB K q.2 u
    | none => false)
  | none => false
theorem conB_ok (X : K.In h) (G : h.Ns mainGlobals mg) {x : Str} {d : D} (e : conB K (x, d) = true) :
    ∃ (v : V) (u : Value), (∀ (hx : HX) F, Rp ⟨K, mg, w, hx.1, hx.2⟩ F d v) ∧ RelV v u ∧ (mg x = some u ∨ (mg x = none ∧ bootBuiltins x = some u)) := by
  unfold conB at e
  dsimp only at e
  split at e
  · rename_i u q
    obtain ⟨a1, a2⟩ := dB_ok (w := w) X G d u e
    exact ⟨_, u, fun hx F => a2 _ _ F, a1, .inl (PySem.W.mg_of X G q)⟩
  · rename_i q
    split at e
    · rename_i u q2
      obtain ⟨a1, a2⟩ := dB_ok (w := w) X G d u e
      exact ⟨_, u, fun hx F => a2 _ _ F, a1, .inr ⟨PySem.W.mg_none_of X G q, q2⟩⟩
    · cases e
  · cases e
theorem tab_ok (X : K.In h) (G : h.Ns mainGlobals mg) {x : Str} {kvs : List (D × D)} {ks : List Str} (e0 : PySem.W.nsIn K mainGlobals x = some (some (.ref (He.ga K x)))) (e1 : He.dicW K (He.ga K x) = some (He.keysIn w.params ks)) (e2 : wB K (He.ga K x) kvs = true) (hne : kvs ≠ []) (hks : ∀ z ∈ ks, ∃ d, (D.str z, d) ∈ kvs) :
    ∃ (v : V) (u : Value), (∀ (hx : HX) F, Rp ⟨K, mg, w, hx.1, hx.2⟩ F (.dct kvs) v) ∧ RelV v u ∧ (mg x = some u ∨ (mg x = none ∧ bootBuiltins x = some u)) := by
  refine ⟨.ref (He.ga K x), .ref (He.ga K x), fun hx F => ?_, rfl, .inl (PySem.W.mg_of X G e0)⟩
  simp only [Rp]
  refine ⟨_, rfl, .inr (.inr ⟨hne, He.dicW_ok e1, fun z => ?_, wB_ok X G kvs e2 _ _ F⟩)⟩
  obtain ⟨r, h1, h2⟩ := nsIn_tab e1 z
  exact ⟨r, h1, fun h => hks z (h2 h)⟩
/-! ### the classes -/
def excB (K : PySem.W.Frag) (D : Addr) : Bool :=
  decide (PySem.W.findIn K (.ref D) "__getattribute__" = some (some (.builtin "BaseException.__getattribute__"))) && (decide (PySem.W.findIn K (.ref D) "__getattr__" = some none) && (decide (PySem.W.subIn K (.ref D) (.type "BaseException") = some true) && (PySem.W.hasDictIn K D && (decide (PySem.W.findIn K (.ref D) "__class__" = some (some (.builtin "object.__class__"))) && (decide (PySem.W.specialIn K (.builtin "object.__class__") "__get__" = some (some (.builtin "getset_descriptor.__get__"))) && (decide (PySem.W.takesIn K (.builtin "object.__class__") = some true) && decide (PySem.W.mroIn K D (.type "object") = some true)))))))
theorem excB_ok {D : Addr} (e : excB K D = true) : ExcC K D := by
  obtain ⟨e1, e⟩ := He.ba e
  obtain ⟨e2, e⟩ := He.ba e
  obtain ⟨e3, e⟩ := He.ba e
  obtain ⟨e4, e⟩ := He.ba e
  obtain ⟨e5, e⟩ := He.ba e
  obtain ⟨e6, e⟩ := He.ba e
  obtain ⟨e7, e8⟩ := He.ba e
  exact ⟨of_decide_eq_true e1, of_decide_eq_true e2, of_decide_eq_true e3, e4, of_decide_eq_true e5, of_decide_eq_true e6, of_decide_eq_true e7, of_decide_eq_true e8⟩
def subB (K : PySem.W.Frag) (sup : List (Str × Str)) (y x : Str) : Bool := decide (PySem.W.kitOne K (.ref (He.ga K y)) (.ref (He.ga K x)) = some (supOf sup 6 y x)) && decide (PySem.W.exmOne K (.ref (He.ga K y)) (.ref (He.ga K x)) = some (supOf sup 6 y x))
def clsB (K : PySem.W.Frag) (sup : List (Str × Str)) (x : Str) : Bool := decide (PySem.W.nsIn K mainGlobals x = some (some (.ref (He.ga K x)))) && (excB K (He.ga K x) && (sup.map (·.1)).all fun y => subB K sup y x)
theorem sup_mem {sup : List (Str × Str)} {y : Str} (h : (sup.lookup y).isSome = true) : y ∈ sup.map (·.1) := by
  induction sup with
  | nil => cases h
  | cons p r ih =>
    obtain ⟨a, b⟩ := p
    rw [List.lookup_cons] at h
    cases q : y == a with
    | true => rw [eq_of_beq q]; exact List.mem_cons_self
    | false =>
      rw [q] at h
      exact List.mem_cons_of_mem _ (ih h)
theorem clsB_ok (X : K.In h) (G : h.Ns mainGlobals mg) {sup : List (Str × Str)} (al : (sup.map (·.1)).all (clsB K sup) = true) {x : Str} (hx : (sup.lookup x).isSome = true) :
    ∃ Cl : Addr, mg x = some (.ref Cl) ∧ ExcC K Cl ∧ ∀ y Dl, (sup.lookup y).isSome = true → mg y = some (.ref Dl) → PySem.W.kitOne K (.ref Dl) (.ref Cl) = some (supOf sup 6 y x) ∧ PySem.W.exmOne K (.ref Dl) (.ref Cl) = some (supOf sup 6 y x) := by
  have e := List.all_eq_true.mp al x (sup_mem hx)
  obtain ⟨e1, e⟩ := He.ba e
  obtain ⟨e2, e3⟩ := He.ba e
  refine ⟨_, PySem.W.mg_of X G (of_decide_eq_true e1), excB_ok e2, fun y Dl hy my => ?_⟩
  have f := List.all_eq_true.mp al y (sup_mem hy)
  have f1 := PySem.W.mg_of X G (of_decide_eq_true (He.ba f).1)
  rw [f1] at my
  cases my
  obtain ⟨s1, s2⟩ := He.ba (List.all_eq_true.mp e3 y (sup_mem hy))
  exact ⟨of_decide_eq_true s1, of_decide_eq_true s2⟩
/-- a class to raise: its base is ValueError -/
def raiB (K : PySem.W.Frag) (x : Str) : Bool := decide (PySem.W.nsIn K mainGlobals x = some (some (.ref (He.ga K x)))) && (He.Fa.exc x).ok K
theorem raiB_ok (X : K.In h) (G : h.Ns mainGlobals mg) {x : Str} (e : raiB K x = true) : ∃ (Cl : Addr) (B newId initId : String) (bmB : List Value), PySem.ExcBaseFacts B newId initId bmB ∧ PySem.W.excIn K Cl bmB newId = true ∧ mg x = some (.ref Cl) ∧ PySem.W.keepIn K (.ref Cl) = true ∧
    ∀ (M : Model) (h : Heap), K.In h → PySem.W.Looks M h (isSubtype (.ref Cl) (.type "BaseException")) true ∧ PySem.W.Looks M h (typeOf (.ref Cl)) (.type "type") := by
  obtain ⟨e1, e2⟩ := He.ba e
  obtain ⟨c1, c2, c3, c4⟩ := He.exc_ok e2
  exact ⟨_, _, _, _, _, PySem.F.excBase_ValueError, c1, PySem.W.mg_of X G (of_decide_eq_true e1), c2, fun M h x => ⟨PySem.W.looks_subIn x c3, PySem.W.looks_typeIn x c4⟩⟩
def freeB (K : PySem.W.Frag) (x : Str) : Bool := decide (PySem.W.nsIn K mainGlobals x = some none)
end
end Z
end

section
set_option Elab.async false
set_option linter.all false
set_option maxRecDepth 100000
set_option maxHeartbeats 1000000
/-! ZLaw: a law's call, from the evaluator's answer at each script. -/
namespace Z
open PySem PySem.Spec PyProof.Rows L2
/-- the script alone, known to its object -/
def scrF (a : Addr) (ns : List Int) : Hp := fun b => if b = a then some (.lst (ns.map V.int)) else none
def scrH (a : Addr) (ob : Obj) (ns : List Int) : Hp := fun b => if b = a then some (.frz ob (.lst (ns.map V.int))) else none
theorem scrH_at {a b : Addr} {ob : Obj} {ns : List Int} {o : HO} (h : scrH a ob ns b = some o) : b = a ∧ o = .frz ob (.lst (ns.map V.int)) := by
  unfold scrH at h
  split at h
  · rename_i e
    cases h
    exact ⟨e, rfl⟩
  · cases h
theorem scrF_at {a b : Addr} {ns : List Int} {o : HO} (h : scrF a ns b = some o) : b = a ∧ o = .lst (ns.map V.int) := by
  unfold scrF at h
  split at h
  · rename_i e
    cases h
    exact ⟨e, rfl⟩
  · cases h
theorem scr_sim {K : PySem.W.Frag} {mg : Str → Option Value} {w : World} {a : Addr} {ob : Obj} {ns : List Int} :
    Sm ⟨K, mg, w, none, (· = a)⟩ ⟨scrF a ns, [O.frz (.scr ns)].map some, fun _ => []⟩ ([V.ref a].map some) (scrH a ob ns) := by
  refine ⟨fun b o h => ?_, fun b o h => ?_, fun b xs h n => ?_, fun b h => ?_, rfl, fun i o h => ?_, fun _ _ => rfl, fun i j b h => nomatch h⟩
  · obtain ⟨rfl, rfl⟩ := scrF_at h
    exact .inr ⟨ob, if_pos rfl⟩
  · obtain ⟨rfl, rfl⟩ := scrF_at h
    rfl
  · exact absurd (scrF_at h).1 n
  · have e : b = a := h
    subst e
    rw [show scrH b ob ns b = some _ from if_pos rfl]
    exact fun z => nomatch z
  · cases i with
    | zero =>
      cases h
      refine ⟨.ref a, rfl, ?_⟩
      refine ⟨?_, rfl⟩
      simp only [Rp]
      exact ⟨a, rfl, if_pos rfl⟩
    | succ i => cases i <;> cases h
theorem law_Z {P : Program} {w : World} {K : PySem.W.Frag} {mg mb : Str → Option Value} {k : Nat} {fa a : Addr} {F : List O → FR} {s₁ : Shared} {vs : List Value} {ns : List Int}
    (KX : K.In s₁.heap) (nl : NoLs K) (hns : s₁.heap.Ns mainGlobals mg) (hb : s₁.heap.Ns builtinsNs mb) (hbb : ∀ x : Str, x ≠ "__name__" → mb x = bootBuiltins x) (hlim : s₁.heap.NoLimit) (hg : s₁.gens = #[])
    (ha : s₁.heap.get? a = some { cls := .type "list", data := .seq vs.toArray }) (hi : IntsAre vs ns) (hl : ns.length ≤ sizeLine) (hr : Rm k callerA)
    (Fz : ∀ base : Heap, ∃ (fd : FuncData) (ps : List Str), FnZ P w K mg base false k fa fd ps F ∧ Binds K fd ps [] ∧ ps.length = 1)
    (hF : ∃ outs, F [.frz (.scr ns)] = .ok (.frz (.bl true)) outs) :
    codeAny (model P w) callerA (.call (.ref fa) ⟨[.ref a], []⟩) (fun r s' => r = .ok (.ret (.bool true)) ∧ OldK s₁.heap s'.heap ∧ s'.os = s₁.os ∧ AllBare s'.gens) s₁ := by
  have rv := vals_ints hi
  have H0 : ∀ {b : Addr} {o : Obj}, s₁.heap.get? b = some o → isLs o = false → scrH a { cls := .type "list", data := .seq vs.toArray } ns b = none := fun {b o} e n => by
    cases q : scrH a { cls := .type "list", data := .seq vs.toArray } ns b with
    | none => rfl
    | some u =>
      obtain ⟨rfl, _⟩ := scrH_at q
      rw [ha] at e
      cases e
      cases n
  have nsK : ∀ {b : Addr} {m : Str → Option Value}, s₁.heap.Ns b m → (hidT s₁.heap (scrH a { cls := .type "list", data := .seq vs.toArray } ns)).Ns b m := fun {b m} ⟨o, es, ep, e, d, r⟩ => ⟨o, es, ep, hidT_get e (H0 e (by unfold isLs; rw [d])), d, r⟩
  have M0 : Mod K mg (hidT s₁.heap (scrH a { cls := .type "list", data := .seq vs.toArray } ns)) := ⟨fun b o e => hidT_get (KX b o e) (H0 (KX b o e) (nl b o e)), nsK hns, ⟨mb, nsK hb, hbb⟩, let ⟨mc, h1, h2⟩ := hlim; ⟨mc, nsK h1, h2⟩⟩
  have hok : HOk P w (scrH a { cls := .type "list", data := .seq vs.toArray } ns) s₁.heap := fun b u z => by
    obtain ⟨rfl, rfl⟩ := scrH_at z
    exact ⟨ha, by rw [List.length_map]; exact hl, vs, _, rv, ha⟩
  have e0 : Env0 P w K mg _ callerA [] s₁ (scrH a { cls := .type "list", data := .seq vs.toArray } ns) := ⟨rfl, M0, fun b o e => of_hidT e, Nat.le_of_eq (hidT_size _ _), trivial, fun b hb => (nomatch (show b ∈ ([] : List Addr) from hb)), hok, .of_eq hg⟩
  obtain ⟨outs, eF⟩ := hF
  obtain ⟨fd, ps, Fz, hb1, hps⟩ := Fz (hidT s₁.heap (scrH a { cls := .type "list", data := .seq vs.toArray } ns))
  have hbd := hb1 s₁ [.ref a] KX hps.symm
  refine codeAny_mono (Fz.does callerA [] s₁ _ ⟨[.ref a], []⟩ [.ref a] [.ref a] (fun v _ => v = .bl true) (fun _ _ _ => False) (none, (· = a)) [] hr rfl ⟨rfl, rfl, rfl⟩ e0 hbd (.cons rfl .nil) hps.symm ⟨_, [.frz (.scr ns)], rfl, scr_sim, ?_⟩) fun r s' h => ?_
  · rw [eF]
    intro B H' v L _ _ hv _
    obtain ⟨h1, _⟩ := hv
    simpa only [Rp] using h1
  · cases r with
    | error e =>
      obtain ⟨_, _, _, _, _, _, _, _, _, _, _, _, z⟩ := h
      exact z.elim
    | ok fl =>
      cases fl with
      | next => exact False.elim h
      | brk => exact False.elim h
      | cont => exact False.elim h
      | ret u =>
        obtain ⟨v, H', os, bare, un, hok', r', q⟩ := h
        have q' : v = .bl true := q
        subst q'
        obtain rfl : u = Value.bool true := r'
        refine ⟨rfl, OldK.of_keep fun b o e => ?_, os, bare⟩
        cases q : scrH a { cls := .type "list", data := .seq vs.toArray } ns b with
        | none => exact un.keep b o e q (fun z => nomatch (show b ∈ ([] : List Addr) from z)) (by simp)
        | some u =>
          obtain ⟨rfl, rfl⟩ := scrH_at q
          obtain ⟨e2, _⟩ := hok' b _ (un.frzs b _ _ q)
          rw [ha] at e
          cases e
          exact e2
/-- the goal that the head leaves -/
theorem walk_Z {l : PySem.W.OpenLaw} {n k : Nat} {q : Program} {loose : List Str} {XP : (Str → Option Value) → Heap → Prop} {YP : World → Heap → Prop} {d : DefRec} {F : List O → FR}
    (hn : l.most = some n) (hn2 : n ≤ sizeLine) (hdf : d.params.defaults = []) (hr : Rm k callerA)
    (G : ∀ (w : World) (mg : Str → Option Value) (fa : Addr) (h : Heap), YP w h → h.Ns mainGlobals mg → mg d.name = some (.ref fa) →
      ∃ (K : PySem.W.Frag), K.In h ∧ NoLs K ∧ ∀ base : Heap, ∃ (fd : FuncData) (ps : List Str), FnZ l.prog w K mg base false k fa fd ps F ∧ Binds K fd ps [] ∧ ps.length = 1)
    (hF : ∀ ns : List Int, ns.length ≤ n → ∃ outs, F [.frz (.scr ns)] = .ok (.frz (.bl true)) outs) :
    PySem.W.WalkO q loose XP YP l.row.toRowW d [] (fun f vs => PySem.call f vs) := by
  refine Att.attach_call hn hdf fun w s₀ s₁ mg mb fa o pm cd doc a vs ns g Y ho hd hcd hmg hobj hints hlen hg => ?_
  obtain ⟨K, KX, nl, Fz⟩ := G w mg fa _ Y g.T.g hmg
  exact law_Z KX nl g.T.g g.T.b g.T.builtins g.T.nolimit hg hobj hints (Nat.le_trans hlen hn2) hr Fz (hF ns hlen)
end Z
end

section
set_option Elab.async false
set_option linter.all false
set_option maxRecDepth 100000
set_option maxHeartbeats 1000000
/-! ZDef: a def of the module, checked, from the head's datum. -/
namespace Z
open PySem L2
theorem defZ_of {T : Tb} {K : PySem.W.Frag} {mg : Str → Option Value} {x : Str} {st : Stmt} {fn : Fn} {ps : List Str} {Ts : List Nat} {fd : FuncData} (F : FunD K x x (defArgs st) (defBody st) (defScope st) [] [] (He.ga K x) fd)
    (Sf : FnScope fn.ns ps (defScope st)) (tie : toSs fn.body = defBody st) (ck : stsC T ⟨defScope st, fn.ns, fun _ => true, true⟩ Ts fn.body = true) (ckh : T.hot x = true → stsC T ⟨defScope st, fn.ns, fun _ => true, false⟩ Ts fn.body = true)
    (hT : ∀ j, fn.lent[j]? = some true → j ∉ Ts) (hnp : fn.np = ps.length) (hle : ps.length ≤ fn.ns.length)
    (hb : ∀ (kV doc pm : Value) (an : Option Addr) (cdv ct : Value) (us : List Value), us.length = ps.length → bindArgs (PySem.W.fnOf x x (defArgs st) (defBody st) (defScope st) .none kV doc pm an cdv ct) ⟨us, []⟩ = pure (ps.zip us))
    (hm : mg x = some (.ref (He.ga K x))) (hf : T.fn x = some ps.length) : DefZ T K mg x fn := by
  have B : Binds K fd ps [] := F.bindsN hb
  have kp := F.kp
  obtain ⟨oc, od, dV, kV, doc, pm, an, cdv, ct, osl, rfl, lk, hcd, _, _⟩ := F.ex
  exact ⟨_, x, x, _, _, dV, kV, doc, pm, cdv, ct, oc, an, od, osl, ps, _, Ts, lk, hcd, Sf, tie, ck, ckh, hT, hnp, hle, B, hm, kp, hf⟩
/-- the usual rest: what may be tracked in a def -/
def fit (lent : List Bool) (Ts : List Nat) : Bool := (List.range lent.length).all fun j => !(lent[j]? == some true) || !Ts.contains j
theorem fit_ok {lent : List Bool} {Ts : List Nat} (h : fit lent Ts = true) : ∀ j, lent[j]? = some true → j ∉ Ts := fun j e m => by
  have hj : j < lent.length := by
    cases Nat.lt_or_ge j lent.length with
    | inl h => exact h
    | inr h => rw [List.getElem?_eq_none h] at e; cases e
  have z := List.all_eq_true.mp h j (List.mem_range.mpr hj)
  rw [e] at z
  have c : Ts.contains j = true := List.contains_iff_mem.mpr m
  rw [c] at z
  cases z
end Z
end

section
set_option Elab.async false
set_option linter.all false
set_option maxRecDepth 100000
set_option maxHeartbeats 1000000
/-! ZEr: the evaluator does not look at annotations. -/
namespace Z
open PySem L2
variable (C : Cxt)
theorem biM_er {x : Str} {es : List E} {ds : List Den} : biM C x (erEs es) ds = biM C x es ds := by
  unfold biM
  split
  · match ds, es with
    | [e, _], [_, .glb t _] => rfl
    | [], _ => rfl
    | [_], _ => rfl
    | _ :: _ :: _ :: _, _ => rfl
    | [_, _], [] => rfl
    | [_, _], [_] => rfl
    | [_, _], _ :: e :: _ :: _ => cases e <;> rfl
    | [_, _], [_, e] => cases e <;> rfl
  · rfl
theorem isM1_er (st : Option E) : isM1 (erEo st) = isM1 st := by
  match st with
  | none => rfl
  | some e =>
    cases e with
    | neg a p =>
      cases a with
      | int i k p =>
        match i with
        | .ofNat 0 => rfl
        | .ofNat 1 => rfl
        | .ofNat (_ + 2) => rfl
        | .negSucc _ => rfl
      | _ => rfl
    | _ => rfl
theorem isNone_er (o : Option E) : (erEo o).isNone = o.isNone := by cases o <;> rfl
mutual
theorem den_er : ∀ e : E, den C (erE e) = den C e
  | .non _ _ => rfl
  | .bl _ _ _ => rfl
  | .int _ _ _ => rfl
  | .str _ _ _ => rfl
  | .var _ _ _ => rfl
  | .glb _ _ => rfl
  | .bin op a b _ => by simp only [erE, den, den_er a, den_er b]
  | .neg a _ => by simp only [erE, den, den_er a]
  | .nt a _ => by simp only [erE, den, den_er a]
  | .band es _ => by simp only [erE, den, dens_er es]
  | .bor es _ => by simp only [erE, den, dens_er es]
  | .cmp op a b _ => by simp only [erE, den, den_er a, den_er b]
  | .chn o1 o2 a b c _ => by simp only [erE, den, den_er a, den_er b, den_er c]
  | .chn3 o1 o2 o3 a b c d _ => by simp only [erE, den, den_er a, den_er b, den_er c, den_er d]
  | .ife c a b _ => by simp only [erE, den, den_er a, den_er b, den_er c]
  | .call x es _ _ => by simp only [erE, den, dens_er es]
  | .bi x es _ _ => by simp only [erE, den, dens_er es, biM_er]
  | .calle f es _ => by simp only [erE, den, dens_er es, den_er f]
  | .meth o m es _ _ => by simp only [erE, den, dens_er es, den_er o]
  | .attr o m _ => by simp only [erE, den, den_er o]
  | .sub a i _ => by simp only [erE, den, den_er a, den_er i]
  | .slc a lo hi st _ _ => by
    cases st with
    | none => simp only [erE, erEo, den, den_er a, denO_er lo, denO_er hi]
    | some e =>
      have h := isM1_er (some e)
      simp only [erEo] at h
      simp only [erE, erEo, den, den_er a, h, isNone_er]
  | .lst es _ => by simp only [erE, den, dens_er es]
  | .tup es _ _ => by simp only [erE, den, dens_er es]
  | .star e _ => by simp only [erE, den, den_er e]
  | .dic ks vs _ => by simp only [erE, den, dens_er ks, dens_er vs]
  | .lc el tg it ifs own _ _ => by simp only [erE, den, den_er el, den_er tg, den_er it, dens_er ifs]
  | .lc2 el tg it tg2 it2 ifs2 own _ _ => by simp only [erE, den, den_er el, den_er tg, den_er it, den_er tg2, den_er it2, dens_er ifs2]
  | .dc k v tg it ifs own _ _ => by simp only [erE, den, den_er k, den_er v, den_er tg, den_er it, dens_er ifs]
theorem dens_er : ∀ es : List E, dens C (erEs es) = dens C es
  | [] => rfl
  | e :: r => by simp only [erEs, dens, den_er e, dens_er r]
theorem denO_er : ∀ o : Option E, denO C (erEo o) = denO C o
  | none => rfl
  | some e => by simp only [erEo, denO, den_er e]
end
theorem isTup2_er (t e : E) : isTup2 (erE t) (erE e) = isTup2 t e := by
  have L : ∀ es : List E, (erEs es).length = es.length := fun es => by
    induction es with
    | nil => rfl
    | cons a r ih => show (erEs r).length + 1 = _; rw [ih]; rfl
  cases t with
  | tup ts k p =>
    cases e with
    | tup es k2 p2 => show ((erEs ts).length == (erEs es).length) = _; rw [L, L]; rfl
    | _ => rfl
  | _ => cases e <;> rfl
theorem subOf_er (t : E) : ((subOf (erE t)).map fun p => (den C p.1, den C p.2)) = (subOf t).map fun p => (den C p.1, den C p.2) := by
  cases t with
  | sub o k p => show some (den C (erE o), den C (erE k)) = _; rw [den_er, den_er]; rfl
  | _ => rfl
theorem fldOf_er (t : E) : fldOf (erE t) = fldOf t := by
  cases t with
  | attr o m p => cases o <;> rfl
  | _ => rfl
mutual
theorem exS_er : ∀ s : S, exS C (erS s) = exS C s
  | .asg t e _ => by simp only [erS, exS, den_er, isTup2_er]
  | .aug t op e _ => by simp only [erS, exS, den_er, subOf_er, fldOf_er]
  | .ret e _ => by simp only [erS, exS, den_er]
  | .retn _ => rfl
  | .ifs c a b _ => by simp only [erS, exS, den_er, exSs_er a, exSs_er b]
  | .fors t it b _ => by simp only [erS, exS, den_er, exSs_er b]
  | .whl c b _ => by simp only [erS, exS, den_er, exSs_er b]
  | .brk _ => rfl
  | .cnt _ => rfl
  | .pas _ => rfl
  | .expr e _ => by simp only [erS, exS, den_er]
  | .rais x es _ _ _ => by simp only [erS, exS, dens_er]
  | .tryx b x _ n h _ _ => by simp only [erS, exS, exSs_er b, exSs_er h]
theorem exSs_er : ∀ ss : List S, exSs C (erSs ss) = exSs C ss
  | [] => rfl
  | s :: r => by simp only [erSs, exSs, exS_er s, exSs_er r]
end
/-! ### a whole program -/
def Fn.er (f : Fn) : Fn := { f with body := erSs f.body }
def Prog.er (P : Prog) : Prog := { P with fns := P.fns.map fun p => (p.1, p.2.er) }
theorem lookup_er (x : Str) : ∀ l : List (Str × Fn), (l.map fun p => (p.1, p.2.er)).lookup x = (l.lookup x).map Fn.er
  | [] => rfl
  | (y, f) :: l => by
    rw [List.map_cons, List.lookup_cons, List.lookup_cons]
    cases x == y with
    | true => rfl
    | false => exact lookup_er x l
theorem runFn_er (f : Fn) (args : List O) : runFn C f.er args = runFn C f args := by
  unfold runFn Fn.er
  simp only [exSs_er]
theorem cxt_er (P : Prog) (call : Str → List O → FR) : P.er.cxt call = P.cxt call := by
  unfold Prog.cxt
  have l : P.er.fns = P.fns.map fun p => (p.1, p.2.er) := rfl
  simp only [l, lookup_er]
  congr 1
  · funext x
    cases P.fns.lookup x <;> rfl
  · funext x
    cases P.fns.lookup x <;> rfl
theorem call_er (P : Prog) : ∀ (n : Nat), P.er.call n = P.call n
  | 0 => rfl
  | n + 1 => by
    funext x args
    have l : P.er.fns = P.fns.map fun p => (p.1, p.2.er) := rfl
    unfold Prog.call
    simp only [l, lookup_er, cxt_er, call_er P n]
    cases P.fns.lookup x with
    | some f => exact runFn_er _ f args
    | none =>
      cases P.fns.lookup (x ++ ".__init__") with
      | some f => simp only [Option.map, runFn_er]
      | none => rfl
end Z
end

section
set_option Elab.async false
set_option linter.all false
set_option maxRecDepth 100000
set_option maxHeartbeats 0
namespace K21
open PySem L2 Z
def top (i : Nat) : Stmt := PySem.Challenge.pw_neverbelow_k21_lines_and_forms.main.body.getD i (.Pass ⟨0, 0, 0, 0⟩)
def rows : List (Nat × Str × Nat × List Str × List Bool) := [
  (10, "is_integer", 1, ["term"], [false]),
  (11, "is_row", 1, ["term", "entry"], [false]),
  (12, "are_pairs", 1, ["term", "entry"], [false]),
  (13, "is_told_table", 1, ["term", "entry"], [false]),
  (14, "is_told_poly", 1, ["term", "entry", "powers", "part"], [false]),
  (16, "has_form", 2, ["thing", "term"], [false, false]),
  (20, "words_of", 1, ["line", "words", "word", "char"], [false]),
  (21, "is_name", 1, ["word", "char"], [false]),
  (22, "number_in", 1, ["word", "char"], [false]),
  (24, "_law_number", 1, ["cell"], [false]),
  (25, "_law_draws", 1, ["script", "draws", "cell", "rest", "k", "once", "twice"], [false]),
  (26, "_law_next", 1, ["draws"], [true]),
  (27, "_law_more", 2, ["draws", "many", "seed", "more", "k"], [true, false]),
  (28, "_law_pick", 2, ["draws", "some"], [true, false]),
  (29, "_law_kind", 1, ["error", "names", "found"], [false]),
  (30, "_law_line", 1, ["line", "words", "word", "sign"], [false]),
  (31, "_law_number_of", 1, ["word", "k"], [false]),
  (32, "_law_is_row", 1, ["term", "entry"], [false]),
  (33, "_law_are_pairs", 1, ["term", "entry"], [false]),
  (34, "_law_due", 2, ["thing", "term", "entry", "powers", "part"], [false, false]),
  (35, "_law_spoilt", 2, ["draws", "term", "at", "kind"], [true, false]),
  (36, "law", 1, ["script", "draws", "turn", "line", "word", "small", "terms", "term", "kinds", "wrong", "error", "at", "sign", "thing"], [false])]
def arF (x : Str) : Option Nat := (rows.find? fun r => r.2.1 == x).map (·.2.2.1)
def clsL : List Str := ["BelowError", "NotPoly", "NotTable", "NotPlace", "NotPaper", "BadNumber", "NoAnswer", "TooLarge"]
def T : Tb := ⟨arF, fun x => x == "_law_kind", fun x => x ∈ biAll || x == "bool", fun x => x ∈ clsL, fun x => x ∈ clsL⟩
def bodyOf (r : Nat × Str × Nat × List Str × List Bool) : List Z.S := ofSs r.2.2.2.1 (defBody (top r.1))
def tsOf (r : Nat × Str × Nat × List Str × List Bool) : List Nat := (List.range r.2.2.2.1.length).filter fun j => !(r.2.2.2.2[j]?.getD false)
def okR (r : Nat × Str × Nat × List Str × List Bool) : Bool := stsC T ⟨defScope (top r.1), r.2.2.2.1, fun _ => true, true⟩ (tsOf r) (bodyOf r)
end K21
end

section
set_option Elab.async false
set_option linter.all false
set_option maxRecDepth 100000
set_option maxHeartbeats 0
namespace K21
open PySem L2 Z
theorem tie_all : (rows.all fun r => okR r) = true := by kernel_rfl
theorem tie_kind : stsC T ⟨defScope (top 29), ["error", "names", "found"], fun _ => true, false⟩ (tsOf (rows.getD 14 default)) (bodyOf (rows.getD 14 default)) = true := by kernel_rfl
end K21
end

section
set_option Elab.async false
set_option linter.all false
set_option maxRecDepth 100000
set_option maxHeartbeats 0
namespace K21
open PySem L2 Z
theorem tie_10 : toSs (ofSs ["term"] (defBody (top 10))) = defBody (top 10) := by kernel_rfl
theorem tie_11 : toSs (ofSs ["term", "entry"] (defBody (top 11))) = defBody (top 11) := by kernel_rfl
theorem tie_12 : toSs (ofSs ["term", "entry"] (defBody (top 12))) = defBody (top 12) := by kernel_rfl
theorem tie_13 : toSs (ofSs ["term", "entry"] (defBody (top 13))) = defBody (top 13) := by kernel_rfl
theorem tie_14 : toSs (ofSs ["term", "entry", "powers", "part"] (defBody (top 14))) = defBody (top 14) := by kernel_rfl
theorem tie_16 : toSs (ofSs ["thing", "term"] (defBody (top 16))) = defBody (top 16) := by kernel_rfl
theorem tie_20 : toSs (ofSs ["line", "words", "word", "char"] (defBody (top 20))) = defBody (top 20) := by kernel_rfl
theorem tie_21 : toSs (ofSs ["word", "char"] (defBody (top 21))) = defBody (top 21) := by kernel_rfl
theorem tie_22 : toSs (ofSs ["word", "char"] (defBody (top 22))) = defBody (top 22) := by kernel_rfl
theorem tie_24 : toSs (ofSs ["cell"] (defBody (top 24))) = defBody (top 24) := by kernel_rfl
theorem tie_25 : toSs (ofSs ["script", "draws", "cell", "rest", "k", "once", "twice"] (defBody (top 25))) = defBody (top 25) := by kernel_rfl
theorem tie_26 : toSs (ofSs ["draws"] (defBody (top 26))) = defBody (top 26) := by kernel_rfl
theorem tie_27 : toSs (ofSs ["draws", "many", "seed", "more", "k"] (defBody (top 27))) = defBody (top 27) := by kernel_rfl
theorem tie_28 : toSs (ofSs ["draws", "some"] (defBody (top 28))) = defBody (top 28) := by kernel_rfl
theorem tie_29 : toSs (ofSs ["error", "names", "found"] (defBody (top 29))) = defBody (top 29) := by kernel_rfl
theorem tie_30 : toSs (ofSs ["line", "words", "word", "sign"] (defBody (top 30))) = defBody (top 30) := by kernel_rfl
theorem tie_31 : toSs (ofSs ["word", "k"] (defBody (top 31))) = defBody (top 31) := by kernel_rfl
theorem tie_32 : toSs (ofSs ["term", "entry"] (defBody (top 32))) = defBody (top 32) := by kernel_rfl
theorem tie_33 : toSs (ofSs ["term", "entry"] (defBody (top 33))) = defBody (top 33) := by kernel_rfl
theorem tie_34 : toSs (ofSs ["thing", "term", "entry", "powers", "part"] (defBody (top 34))) = defBody (top 34) := by kernel_rfl
theorem tie_35 : toSs (ofSs ["draws", "term", "at", "kind"] (defBody (top 35))) = defBody (top 35) := by kernel_rfl
theorem tie_36 : toSs (ofSs ["script", "draws", "turn", "line", "word", "small", "terms", "term", "kinds", "wrong", "error", "at", "sign", "thing"] (defBody (top 36))) = defBody (top 36) := by kernel_rfl
end K21
end

section
set_option Elab.async false
set_option linter.all false
set_option maxRecDepth 100000
set_option maxHeartbeats 0
namespace K21
open PySem L2 Z
/-! ### the module, as we hold it -/
def fnOfRow (r : Nat × Str × Nat × List Str × List Bool) : Fn := ⟨r.2.1, r.2.2.1, r.2.2.2.1, r.2.2.2.2, bodyOf r⟩
def fns : List (Str × Fn) := rows.map fun r => (r.2.1, fnOfRow r)
def kd (x : Str) (d : D) : Str × D := (x, d)
def ks (x y : Str) : Str × Str := (x, y)
def formsD : List (D × D) := [(.str "poly", .fn "is_told_poly"), (.str "fractions", .fn "are_pairs"), (.str "table", .fn "is_told_table"), (.str "row", .fn "is_row")]
def con0 : List (Str × D) := [kd "int" (.fn "int"), kd "str" (.fn "str"), kd "bool" (.fn "bool"), kd "tuple" (.fn "tuple"), kd "list" (.fn "list"), kd "dict" (.fn "dict"), kd "SMALL" (.str "abcdefghijklmnopqrstuvwxyz"), kd "FIGURES" (.str "0123456789")] ++ clsL.map (fun x => (x, .fn x)) ++ rows.map fun r => (r.2.1, .fn r.2.1)
def con : List (Str × D) := con0 ++ [kd "FORMS" (.dct formsD)]
def sup : List (Str × Str) := [ks "BelowError" "ValueError", ks "NotPoly" "BelowError", ks "NotTable" "BelowError", ks "NotPlace" "BelowError", ks "NotPaper" "BelowError", ks "BadNumber" "BelowError", ks "NoAnswer" "BelowError", ks "TooLarge" "BelowError"]
def prog : Prog := ⟨fns, con, sup, [], 100000⟩
/-! ### the head -/
def chk (K : PySem.W.Frag) : Bool := (("bool" : Str) :: biAll).all (freeB K) && (con0.all (conB K) && ((sup.map (·.1)).all (clsB K sup) && (clsL.all (raiB K) && (decide (PySem.W.nsIn K mainGlobals "FORMS" = some (some (.ref (He.ga K "FORMS")))) && (wB K (He.ga K "FORMS") formsD && rows.all fun r => decide (PySem.W.nsIn K mainGlobals r.2.1 = some (some (.ref (He.ga K r.2.1)))))))))
def dfs : List He.DefD := rows.map fun r => ⟨(r.2.1, none), r.2.1, r.2.1, defArgs (top r.1), defBody (top r.1), defScope (top r.1), [], []⟩
def ts : List He.Tab := [(fun K => He.ga K "FORMS", ["poly", "fractions", "table", "row"])]
abbrev R : PySem.W.OpenRow := PySem.W.OpenLaw.row PySem.Challenge.rw_neverbelow_k21_lines_and_forms
abbrev hk : PySem.W.Hook := hookZ 4 chk dfs ts
def ob (s : PySem.W.SharedT) : AlZ := obsZG 4 chk dfs ts (HandSHeadRun.getT s)
theorem ob_eq (s : PySem.W.SharedT) : ob s = hk.obs s.abs := obsZG_eq (HandSHeadRun.getT_eq s)
end K21
end

section
set_option Elab.async false
set_option linter.all false
set_option maxRecDepth 100000
set_option maxHeartbeats 0
namespace K21
open PySem L2 Z
def loose : List Str := ["BelowError", "NotPoly", "NotTable", "NotPlace", "NotPaper", "BadNumber", "NoAnswer", "TooLarge", "is_integer", "is_row", "are_pairs", "is_told_table", "is_told_poly", "FORMS", "has_form", "SMALL", "FIGURES", "words_of", "is_name", "number_in", "_law_number", "_law_draws", "_law_next", "_law_more", "_law_pick", "_law_kind", "_law_line", "_law_number_of", "_law_is_row", "_law_are_pairs", "_law_due", "_law_spoilt"]
theorem run0 (w : World) : HandSHeadRun.RunEq R (PySem.W.view R.prog [36]) hk ob 4000 loose (w.withFollow "special-get-raises" false) := by intro os; kernel_rfl
theorem run1 (w : World) : HandSHeadRun.RunEq R (PySem.W.view R.prog [36]) hk ob 4000 loose (w.withFollow "special-get-raises" true) := by intro os; kernel_rfl
theorem run (w : World) : HandSHeadRun.RunEq R (PySem.W.view R.prog [36]) hk ob 4000 loose w := PySem.W.byRow2 "special-get-raises" (P := fun w => HandSHeadRun.RunEq R (PySem.W.view R.prog [36]) hk ob 4000 loose w) run0 run1 w
end K21
end

section
set_option Elab.async false
set_option linter.all false
set_option maxRecDepth 100000
set_option maxHeartbeats 0
namespace K21
open PySem L2 Z
section
variable {K : PySem.W.Frag} {h : Heap} {mg : Str → Option Value} {w : World}
theorem row_in (k : Nat) {r : Nat × Str × Nat × List Str × List Bool} (e : rows[k]? = some r) : r ∈ rows := List.mem_of_getElem? e
theorem glo (X : K.In h) (G : h.Ns mainGlobals mg) (c : chk K = true) (k : Nat) {r : Nat × Str × Nat × List Str × List Bool} (e : rows[k]? = some r) : mg r.2.1 = some (.ref (He.ga K r.2.1)) := by
  obtain ⟨_, c⟩ := He.ba c
  obtain ⟨_, c⟩ := He.ba c
  obtain ⟨_, c⟩ := He.ba c
  obtain ⟨_, c⟩ := He.ba c
  obtain ⟨_, c⟩ := He.ba c
  obtain ⟨_, c⟩ := He.ba c
  exact PySem.W.mg_of X G (of_decide_eq_true (List.all_eq_true.mp c r (row_in k e)))
theorem okRow (k : Nat) {r : Nat × Str × Nat × List Str × List Bool} (e : rows[k]? = some r) : okR r = true := List.all_eq_true.mp tie_all r (row_in k e)
theorem def_0 (X : K.In h) (G : h.Ns mainGlobals mg) (c : SaysZ chk dfs ts w K) : DefZ T K mg "is_integer" (fnOfRow ((10, "is_integer", 1, ["term"], [false]) : Nat × Str × Nat × List Str × List Bool)) := by
  obtain ⟨fd, F⟩ := He.SaysD.def_ c.t.d 0 rfl
  exact defZ_of (st := top 10) (Ts := tsOf ((10, "is_integer", 1, ["term"], [false]) : Nat × Str × Nat × List Str × List Bool)) (ps := ["term"]) F ⟨rfl, rfl, rfl, by decide +kernel, rfl, by decide +kernel, by decide +kernel⟩ tie_10 (okRow 0 rfl) (fun z => nomatch (show (false : Bool) = true from z)) (fit_ok (by decide +kernel)) rfl (by decide) (fun _ _ _ _ _ _ us hl => match us, hl with | [_], _ => rfl) (glo X G c.chk 0 rfl) rfl
theorem def_1 (X : K.In h) (G : h.Ns mainGlobals mg) (c : SaysZ chk dfs ts w K) : DefZ T K mg "is_row" (fnOfRow ((11, "is_row", 1, ["term", "entry"], [false]) : Nat × Str × Nat × List Str × List Bool)) := by
  obtain ⟨fd, F⟩ := He.SaysD.def_ c.t.d 1 rfl
  exact defZ_of (st := top 11) (Ts := tsOf ((11, "is_row", 1, ["term", "entry"], [false]) : Nat × Str × Nat × List Str × List Bool)) (ps := ["term"]) F ⟨rfl, rfl, rfl, by decide +kernel, rfl, by decide +kernel, by decide +kernel⟩ tie_11 (okRow 1 rfl) (fun z => nomatch (show (false : Bool) = true from z)) (fit_ok (by decide +kernel)) rfl (by decide) (fun _ _ _ _ _ _ us hl => match us, hl with | [_], _ => rfl) (glo X G c.chk 1 rfl) rfl
theorem def_2 (X : K.In h) (G : h.Ns mainGlobals mg) (c : SaysZ chk dfs ts w K) : DefZ T K mg "are_pairs" (fnOfRow ((12, "are_pairs", 1, ["term", "entry"], [false]) : Nat × Str × Nat × List Str × List Bool)) := by
  obtain ⟨fd, F⟩ := He.SaysD.def_ c.t.d 2 rfl
  exact defZ_of (st := top 12) (Ts := tsOf ((12, "are_pairs", 1, ["term", "entry"], [false]) : Nat × Str × Nat × List Str × List Bool)) (ps := ["term"]) F ⟨rfl, rfl, rfl, by decide +kernel, rfl, by decide +kernel, by decide +kernel⟩ tie_12 (okRow 2 rfl) (fun z => nomatch (show (false : Bool) = true from z)) (fit_ok (by decide +kernel)) rfl (by decide) (fun _ _ _ _ _ _ us hl => match us, hl with | [_], _ => rfl) (glo X G c.chk 2 rfl) rfl
theorem def_3 (X : K.In h) (G : h.Ns mainGlobals mg) (c : SaysZ chk dfs ts w K) : DefZ T K mg "is_told_table" (fnOfRow ((13, "is_told_table", 1, ["term", "entry"], [false]) : Nat × Str × Nat × List Str × List Bool)) := by
  obtain ⟨fd, F⟩ := He.SaysD.def_ c.t.d 3 rfl
  exact defZ_of (st := top 13) (Ts := tsOf ((13, "is_told_table", 1, ["term", "entry"], [false]) : Nat × Str × Nat × List Str × List Bool)) (ps := ["term"]) F ⟨rfl, rfl, rfl, by decide +kernel, rfl, by decide +kernel, by decide +kernel⟩ tie_13 (okRow 3 rfl) (fun z => nomatch (show (false : Bool) = true from z)) (fit_ok (by decide +kernel)) rfl (by decide) (fun _ _ _ _ _ _ us hl => match us, hl with | [_], _ => rfl) (glo X G c.chk 3 rfl) rfl
theorem def_4 (X : K.In h) (G : h.Ns mainGlobals mg) (c : SaysZ chk dfs ts w K) : DefZ T K mg "is_told_poly" (fnOfRow ((14, "is_told_poly", 1, ["term", "entry", "powers", "part"], [false]) : Nat × Str × Nat × List Str × List Bool)) := by
  obtain ⟨fd, F⟩ := He.SaysD.def_ c.t.d 4 rfl
  exact defZ_of (st := top 14) (Ts := tsOf ((14, "is_told_poly", 1, ["term", "entry", "powers", "part"], [false]) : Nat × Str × Nat × List Str × List Bool)) (ps := ["term"]) F ⟨rfl, rfl, rfl, by decide +kernel, rfl, by decide +kernel, by decide +kernel⟩ tie_14 (okRow 4 rfl) (fun z => nomatch (show (false : Bool) = true from z)) (fit_ok (by decide +kernel)) rfl (by decide) (fun _ _ _ _ _ _ us hl => match us, hl with | [_], _ => rfl) (glo X G c.chk 4 rfl) rfl
theorem def_5 (X : K.In h) (G : h.Ns mainGlobals mg) (c : SaysZ chk dfs ts w K) : DefZ T K mg "has_form" (fnOfRow ((16, "has_form", 2, ["thing", "term"], [false, false]) : Nat × Str × Nat × List Str × List Bool)) := by
  obtain ⟨fd, F⟩ := He.SaysD.def_ c.t.d 5 rfl
  exact defZ_of (st := top 16) (Ts := tsOf ((16, "has_form", 2, ["thing", "term"], [false, false]) : Nat × Str × Nat × List Str × List Bool)) (ps := ["thing", "term"]) F ⟨rfl, rfl, rfl, by decide +kernel, rfl, by decide +kernel, by decide +kernel⟩ tie_16 (okRow 5 rfl) (fun z => nomatch (show (false : Bool) = true from z)) (fit_ok (by decide +kernel)) rfl (by decide) (fun _ _ _ _ _ _ us hl => match us, hl with | [_, _], _ => rfl) (glo X G c.chk 5 rfl) rfl
theorem def_6 (X : K.In h) (G : h.Ns mainGlobals mg) (c : SaysZ chk dfs ts w K) : DefZ T K mg "words_of" (fnOfRow ((20, "words_of", 1, ["line", "words", "word", "char"], [false]) : Nat × Str × Nat × List Str × List Bool)) := by
  obtain ⟨fd, F⟩ := He.SaysD.def_ c.t.d 6 rfl
  exact defZ_of (st := top 20) (Ts := tsOf ((20, "words_of", 1, ["line", "words", "word", "char"], [false]) : Nat × Str × Nat × List Str × List Bool)) (ps := ["line"]) F ⟨rfl, rfl, rfl, by decide +kernel, rfl, by decide +kernel, by decide +kernel⟩ tie_20 (okRow 6 rfl) (fun z => nomatch (show (false : Bool) = true from z)) (fit_ok (by decide +kernel)) rfl (by decide) (fun _ _ _ _ _ _ us hl => match us, hl with | [_], _ => rfl) (glo X G c.chk 6 rfl) rfl
theorem def_7 (X : K.In h) (G : h.Ns mainGlobals mg) (c : SaysZ chk dfs ts w K) : DefZ T K mg "is_name" (fnOfRow ((21, "is_name", 1, ["word", "char"], [false]) : Nat × Str × Nat × List Str × List Bool)) := by
  obtain ⟨fd, F⟩ := He.SaysD.def_ c.t.d 7 rfl
  exact defZ_of (st := top 21) (Ts := tsOf ((21, "is_name", 1, ["word", "char"], [false]) : Nat × Str × Nat × List Str × List Bool)) (ps := ["word"]) F ⟨rfl, rfl, rfl, by decide +kernel, rfl, by decide +kernel, by decide +kernel⟩ tie_21 (okRow 7 rfl) (fun z => nomatch (show (false : Bool) = true from z)) (fit_ok (by decide +kernel)) rfl (by decide) (fun _ _ _ _ _ _ us hl => match us, hl with | [_], _ => rfl) (glo X G c.chk 7 rfl) rfl
theorem def_8 (X : K.In h) (G : h.Ns mainGlobals mg) (c : SaysZ chk dfs ts w K) : DefZ T K mg "number_in" (fnOfRow ((22, "number_in", 1, ["word", "char"], [false]) : Nat × Str × Nat × List Str × List Bool)) := by
  obtain ⟨fd, F⟩ := He.SaysD.def_ c.t.d 8 rfl
  exact defZ_of (st := top 22) (Ts := tsOf ((22, "number_in", 1, ["word", "char"], [false]) : Nat × Str × Nat × List Str × List Bool)) (ps := ["word"]) F ⟨rfl, rfl, rfl, by decide +kernel, rfl, by decide +kernel, by decide +kernel⟩ tie_22 (okRow 8 rfl) (fun z => nomatch (show (false : Bool) = true from z)) (fit_ok (by decide +kernel)) rfl (by decide) (fun _ _ _ _ _ _ us hl => match us, hl with | [_], _ => rfl) (glo X G c.chk 8 rfl) rfl
theorem def_9 (X : K.In h) (G : h.Ns mainGlobals mg) (c : SaysZ chk dfs ts w K) : DefZ T K mg "_law_number" (fnOfRow ((24, "_law_number", 1, ["cell"], [false]) : Nat × Str × Nat × List Str × List Bool)) := by
  obtain ⟨fd, F⟩ := He.SaysD.def_ c.t.d 9 rfl
  exact defZ_of (st := top 24) (Ts := tsOf ((24, "_law_number", 1, ["cell"], [false]) : Nat × Str × Nat × List Str × List Bool)) (ps := ["cell"]) F ⟨rfl, rfl, rfl, by decide +kernel, rfl, by decide +kernel, by decide +kernel⟩ tie_24 (okRow 9 rfl) (fun z => nomatch (show (false : Bool) = true from z)) (fit_ok (by decide +kernel)) rfl (by decide) (fun _ _ _ _ _ _ us hl => match us, hl with | [_], _ => rfl) (glo X G c.chk 9 rfl) rfl
theorem def_10 (X : K.In h) (G : h.Ns mainGlobals mg) (c : SaysZ chk dfs ts w K) : DefZ T K mg "_law_draws" (fnOfRow ((25, "_law_draws", 1, ["script", "draws", "cell", "rest", "k", "once", "twice"], [false]) : Nat × Str × Nat × List Str × List Bool)) := by
  obtain ⟨fd, F⟩ := He.SaysD.def_ c.t.d 10 rfl
  exact defZ_of (st := top 25) (Ts := tsOf ((25, "_law_draws", 1, ["script", "draws", "cell", "rest", "k", "once", "twice"], [false]) : Nat × Str × Nat × List Str × List Bool)) (ps := ["script"]) F ⟨rfl, rfl, rfl, by decide +kernel, rfl, by decide +kernel, by decide +kernel⟩ tie_25 (okRow 10 rfl) (fun z => nomatch (show (false : Bool) = true from z)) (fit_ok (by decide +kernel)) rfl (by decide) (fun _ _ _ _ _ _ us hl => match us, hl with | [_], _ => rfl) (glo X G c.chk 10 rfl) rfl
theorem def_11 (X : K.In h) (G : h.Ns mainGlobals mg) (c : SaysZ chk dfs ts w K) : DefZ T K mg "_law_next" (fnOfRow ((26, "_law_next", 1, ["draws"], [true]) : Nat × Str × Nat × List Str × List Bool)) := by
  obtain ⟨fd, F⟩ := He.SaysD.def_ c.t.d 11 rfl
  exact defZ_of (st := top 26) (Ts := tsOf ((26, "_law_next", 1, ["draws"], [true]) : Nat × Str × Nat × List Str × List Bool)) (ps := ["draws"]) F ⟨rfl, rfl, rfl, by decide +kernel, rfl, by decide +kernel, by decide +kernel⟩ tie_26 (okRow 11 rfl) (fun z => nomatch (show (false : Bool) = true from z)) (fit_ok (by decide +kernel)) rfl (by decide) (fun _ _ _ _ _ _ us hl => match us, hl with | [_], _ => rfl) (glo X G c.chk 11 rfl) rfl
theorem def_12 (X : K.In h) (G : h.Ns mainGlobals mg) (c : SaysZ chk dfs ts w K) : DefZ T K mg "_law_more" (fnOfRow ((27, "_law_more", 2, ["draws", "many", "seed", "more", "k"], [true, false]) : Nat × Str × Nat × List Str × List Bool)) := by
  obtain ⟨fd, F⟩ := He.SaysD.def_ c.t.d 12 rfl
  exact defZ_of (st := top 27) (Ts := tsOf ((27, "_law_more", 2, ["draws", "many", "seed", "more", "k"], [true, false]) : Nat × Str × Nat × List Str × List Bool)) (ps := ["draws", "many"]) F ⟨rfl, rfl, rfl, by decide +kernel, rfl, by decide +kernel, by decide +kernel⟩ tie_27 (okRow 12 rfl) (fun z => nomatch (show (false : Bool) = true from z)) (fit_ok (by decide +kernel)) rfl (by decide) (fun _ _ _ _ _ _ us hl => match us, hl with | [_, _], _ => rfl) (glo X G c.chk 12 rfl) rfl
theorem def_13 (X : K.In h) (G : h.Ns mainGlobals mg) (c : SaysZ chk dfs ts w K) : DefZ T K mg "_law_pick" (fnOfRow ((28, "_law_pick", 2, ["draws", "some"], [true, false]) : Nat × Str × Nat × List Str × List Bool)) := by
  obtain ⟨fd, F⟩ := He.SaysD.def_ c.t.d 13 rfl
  exact defZ_of (st := top 28) (Ts := tsOf ((28, "_law_pick", 2, ["draws", "some"], [true, false]) : Nat × Str × Nat × List Str × List Bool)) (ps := ["draws", "some"]) F ⟨rfl, rfl, rfl, by decide +kernel, rfl, by decide +kernel, by decide +kernel⟩ tie_28 (okRow 13 rfl) (fun z => nomatch (show (false : Bool) = true from z)) (fit_ok (by decide +kernel)) rfl (by decide) (fun _ _ _ _ _ _ us hl => match us, hl with | [_, _], _ => rfl) (glo X G c.chk 13 rfl) rfl
theorem def_14 (X : K.In h) (G : h.Ns mainGlobals mg) (c : SaysZ chk dfs ts w K) : DefZ T K mg "_law_kind" (fnOfRow ((29, "_law_kind", 1, ["error", "names", "found"], [false]) : Nat × Str × Nat × List Str × List Bool)) := by
  obtain ⟨fd, F⟩ := He.SaysD.def_ c.t.d 14 rfl
  exact defZ_of (st := top 29) (Ts := tsOf ((29, "_law_kind", 1, ["error", "names", "found"], [false]) : Nat × Str × Nat × List Str × List Bool)) (ps := ["error"]) F ⟨rfl, rfl, rfl, by decide +kernel, rfl, by decide +kernel, by decide +kernel⟩ tie_29 (okRow 14 rfl) (fun _ => tie_kind) (fit_ok (by decide +kernel)) rfl (by decide) (fun _ _ _ _ _ _ us hl => match us, hl with | [_], _ => rfl) (glo X G c.chk 14 rfl) rfl
theorem def_15 (X : K.In h) (G : h.Ns mainGlobals mg) (c : SaysZ chk dfs ts w K) : DefZ T K mg "_law_line" (fnOfRow ((30, "_law_line", 1, ["line", "words", "word", "sign"], [false]) : Nat × Str × Nat × List Str × List Bool)) := by
  obtain ⟨fd, F⟩ := He.SaysD.def_ c.t.d 15 rfl
  exact defZ_of (st := top 30) (Ts := tsOf ((30, "_law_line", 1, ["line", "words", "word", "sign"], [false]) : Nat × Str × Nat × List Str × List Bool)) (ps := ["line"]) F ⟨rfl, rfl, rfl, by decide +kernel, rfl, by decide +kernel, by decide +kernel⟩ tie_30 (okRow 15 rfl) (fun z => nomatch (show (false : Bool) = true from z)) (fit_ok (by decide +kernel)) rfl (by decide) (fun _ _ _ _ _ _ us hl => match us, hl with | [_], _ => rfl) (glo X G c.chk 15 rfl) rfl
theorem def_16 (X : K.In h) (G : h.Ns mainGlobals mg) (c : SaysZ chk dfs ts w K) : DefZ T K mg "_law_number_of" (fnOfRow ((31, "_law_number_of", 1, ["word", "k"], [false]) : Nat × Str × Nat × List Str × List Bool)) := by
  obtain ⟨fd, F⟩ := He.SaysD.def_ c.t.d 16 rfl
  exact defZ_of (st := top 31) (Ts := tsOf ((31, "_law_number_of", 1, ["word", "k"], [false]) : Nat × Str × Nat × List Str × List Bool)) (ps := ["word"]) F ⟨rfl, rfl, rfl, by decide +kernel, rfl, by decide +kernel, by decide +kernel⟩ tie_31 (okRow 16 rfl) (fun z => nomatch (show (false : Bool) = true from z)) (fit_ok (by decide +kernel)) rfl (by decide) (fun _ _ _ _ _ _ us hl => match us, hl with | [_], _ => rfl) (glo X G c.chk 16 rfl) rfl
theorem def_17 (X : K.In h) (G : h.Ns mainGlobals mg) (c : SaysZ chk dfs ts w K) : DefZ T K mg "_law_is_row" (fnOfRow ((32, "_law_is_row", 1, ["term", "entry"], [false]) : Nat × Str × Nat × List Str × List Bool)) := by
  obtain ⟨fd, F⟩ := He.SaysD.def_ c.t.d 17 rfl
  exact defZ_of (st := top 32) (Ts := tsOf ((32, "_law_is_row", 1, ["term", "entry"], [false]) : Nat × Str × Nat × List Str × List Bool)) (ps := ["term"]) F ⟨rfl, rfl, rfl, by decide +kernel, rfl, by decide +kernel, by decide +kernel⟩ tie_32 (okRow 17 rfl) (fun z => nomatch (show (false : Bool) = true from z)) (fit_ok (by decide +kernel)) rfl (by decide) (fun _ _ _ _ _ _ us hl => match us, hl with | [_], _ => rfl) (glo X G c.chk 17 rfl) rfl
theorem def_18 (X : K.In h) (G : h.Ns mainGlobals mg) (c : SaysZ chk dfs ts w K) : DefZ T K mg "_law_are_pairs" (fnOfRow ((33, "_law_are_pairs", 1, ["term", "entry"], [false]) : Nat × Str × Nat × List Str × List Bool)) := by
  obtain ⟨fd, F⟩ := He.SaysD.def_ c.t.d 18 rfl
  exact defZ_of (st := top 33) (Ts := tsOf ((33, "_law_are_pairs", 1, ["term", "entry"], [false]) : Nat × Str × Nat × List Str × List Bool)) (ps := ["term"]) F ⟨rfl, rfl, rfl, by decide +kernel, rfl, by decide +kernel, by decide +kernel⟩ tie_33 (okRow 18 rfl) (fun z => nomatch (show (false : Bool) = true from z)) (fit_ok (by decide +kernel)) rfl (by decide) (fun _ _ _ _ _ _ us hl => match us, hl with | [_], _ => rfl) (glo X G c.chk 18 rfl) rfl
theorem def_19 (X : K.In h) (G : h.Ns mainGlobals mg) (c : SaysZ chk dfs ts w K) : DefZ T K mg "_law_due" (fnOfRow ((34, "_law_due", 2, ["thing", "term", "entry", "powers", "part"], [false, false]) : Nat × Str × Nat × List Str × List Bool)) := by
  obtain ⟨fd, F⟩ := He.SaysD.def_ c.t.d 19 rfl
  exact defZ_of (st := top 34) (Ts := tsOf ((34, "_law_due", 2, ["thing", "term", "entry", "powers", "part"], [false, false]) : Nat × Str × Nat × List Str × List Bool)) (ps := ["thing", "term"]) F ⟨rfl, rfl, rfl, by decide +kernel, rfl, by decide +kernel, by decide +kernel⟩ tie_34 (okRow 19 rfl) (fun z => nomatch (show (false : Bool) = true from z)) (fit_ok (by decide +kernel)) rfl (by decide) (fun _ _ _ _ _ _ us hl => match us, hl with | [_, _], _ => rfl) (glo X G c.chk 19 rfl) rfl
theorem def_20 (X : K.In h) (G : h.Ns mainGlobals mg) (c : SaysZ chk dfs ts w K) : DefZ T K mg "_law_spoilt" (fnOfRow ((35, "_law_spoilt", 2, ["draws", "term", "at", "kind"], [true, false]) : Nat × Str × Nat × List Str × List Bool)) := by
  obtain ⟨fd, F⟩ := He.SaysD.def_ c.t.d 20 rfl
  exact defZ_of (st := top 35) (Ts := tsOf ((35, "_law_spoilt", 2, ["draws", "term", "at", "kind"], [true, false]) : Nat × Str × Nat × List Str × List Bool)) (ps := ["draws", "term"]) F ⟨rfl, rfl, rfl, by decide +kernel, rfl, by decide +kernel, by decide +kernel⟩ tie_35 (okRow 20 rfl) (fun z => nomatch (show (false : Bool) = true from z)) (fit_ok (by decide +kernel)) rfl (by decide) (fun _ _ _ _ _ _ us hl => match us, hl with | [_, _], _ => rfl) (glo X G c.chk 20 rfl) rfl
theorem def_21 (X : K.In h) (G : h.Ns mainGlobals mg) (c : SaysZ chk dfs ts w K) : DefZ T K mg "law" (fnOfRow ((36, "law", 1, ["script", "draws", "turn", "line", "word", "small", "terms", "term", "kinds", "wrong", "error", "at", "sign", "thing"], [false]) : Nat × Str × Nat × List Str × List Bool)) := by
  obtain ⟨fd, F⟩ := He.SaysD.def_ c.t.d 21 rfl
  exact defZ_of (st := top 36) (Ts := tsOf ((36, "law", 1, ["script", "draws", "turn", "line", "word", "small", "terms", "term", "kinds", "wrong", "error", "at", "sign", "thing"], [false]) : Nat × Str × Nat × List Str × List Bool)) (ps := ["script"]) F ⟨rfl, rfl, rfl, by decide +kernel, rfl, by decide +kernel, by decide +kernel⟩ tie_36 (okRow 21 rfl) (fun z => nomatch (show (false : Bool) = true from z)) (fit_ok (by decide +kernel)) rfl (by decide) (fun _ _ _ _ _ _ us hl => match us, hl with | [_], _ => rfl) (glo X G c.chk 21 rfl) rfl
end
end K21
end

section
set_option Elab.async false
set_option linter.all false
set_option maxRecDepth 100000
set_option maxHeartbeats 0
namespace K21
open PySem L2 Z
section
variable {K : PySem.W.Frag} {h : Heap} {mg : Str → Option Value} {w : World}
theorem lk_mem {α : Type} {l : List (Str × α)} {x : Str} {d : α} (h : l.lookup x = some d) : (x, d) ∈ l := by
  induction l with
  | nil => cases h
  | cons p r ih =>
    obtain ⟨a, b⟩ := p
    rw [List.lookup_cons] at h
    cases q : x == a with
    | true =>
      rw [q] at h
      cases h
      rw [eq_of_beq q]
      exact List.mem_cons_self
    | false =>
      rw [q] at h
      exact List.mem_cons_of_mem _ (ih h)
theorem names (X : K.In h) (G : h.Ns mainGlobals mg) (c : SaysZ chk dfs ts w K) : NamesZ T prog w K mg := by
  obtain ⟨c1, c2⟩ := He.ba c.chk
  obtain ⟨c2, c3⟩ := He.ba c2
  obtain ⟨c3, c4⟩ := He.ba c3
  obtain ⟨c4, c5⟩ := He.ba c4
  obtain ⟨c5, c6⟩ := He.ba c5
  obtain ⟨c6, c7⟩ := He.ba c6
  refine ⟨fun x e => ?_, fun x d e => ?_, by decide +kernel, fun x e => ?_, fun x e => clsB_ok X G c3 e, fun x e => ⟨rfl, ?_⟩⟩
  · have m : x ∈ (("bool" : Str) :: biAll) := by
      have e1 : (decide (x ∈ biAll) || x == "bool") = true := e
      rcases Bool.or_eq_true_iff.mp e1 with e2 | e2
      · exact List.mem_cons_of_mem _ (of_decide_eq_true e2)
      · rw [eq_of_beq e2]; exact List.mem_cons_self
    exact PySem.W.mg_none_of X G (of_decide_eq_true (List.all_eq_true.mp c1 x m))
  · have m : (x, d) ∈ con := lk_mem e
    rcases List.mem_append.mp m with m | m
    · exact conB_ok X G (List.all_eq_true.mp c2 (x, d) m)
    · cases List.mem_singleton.mp m
      have et := congrArg (fun z : He.AlT => z.2) c.t
      have et0 : He.dicW K (He.ga K "FORMS") = some (He.keysIn w.params ["poly", "fractions", "table", "row"]) := (List.cons.inj (show [He.dicW K (He.ga K "FORMS")] = [some (He.keysIn w.params ["poly", "fractions", "table", "row"])] from et)).1
      exact tab_ok X G (of_decide_eq_true c5) et0 c6 (fun z => nomatch z) (fun z hz => by
        simp only [List.mem_cons, List.not_mem_nil, or_false] at hz
        rcases hz with rfl | rfl | rfl | rfl
        · exact ⟨.fn "is_told_poly", by simp [formsD]⟩
        · exact ⟨.fn "are_pairs", by simp [formsD]⟩
        · exact ⟨.fn "is_told_table", by simp [formsD]⟩
        · exact ⟨.fn "is_row", by simp [formsD]⟩)
  · have m : x ∈ clsL := of_decide_eq_true (show decide (x ∈ clsL) = true from e)
    have al : (clsL.all fun x => (sup.lookup x).isSome) = true := by decide +kernel
    exact List.all_eq_true.mp al x m
  · have m : x ∈ clsL := of_decide_eq_true (show decide (x ∈ clsL) = true from e)
    exact raiB_ok X G (List.all_eq_true.mp c4 x m)
end
end K21
end

section
set_option Elab.async false
set_option linter.all false
set_option maxRecDepth 100000
set_option maxHeartbeats 0
namespace K21
open PySem L2 Z
section
variable {K : PySem.W.Frag} {h : Heap} {mg : Str → Option Value} {w : World}
theorem defs_all (X : K.In h) (G : h.Ns mainGlobals mg) (c : SaysZ chk dfs ts w K) : ∀ r ∈ rows, DefZ T K mg r.2.1 (fnOfRow r) := by
  intro r m
  simp only [rows, List.mem_cons, List.not_mem_nil, or_false] at m
  rcases m with rfl | rfl | rfl | rfl | rfl | rfl | rfl | rfl | rfl | rfl | rfl | rfl | rfl | rfl | rfl | rfl | rfl | rfl | rfl | rfl | rfl | rfl
  · exact def_0 X G c
  · exact def_1 X G c
  · exact def_2 X G c
  · exact def_3 X G c
  · exact def_4 X G c
  · exact def_5 X G c
  · exact def_6 X G c
  · exact def_7 X G c
  · exact def_8 X G c
  · exact def_9 X G c
  · exact def_10 X G c
  · exact def_11 X G c
  · exact def_12 X G c
  · exact def_13 X G c
  · exact def_14 X G c
  · exact def_15 X G c
  · exact def_16 X G c
  · exact def_17 X G c
  · exact def_18 X G c
  · exact def_19 X G c
  · exact def_20 X G c
  · exact def_21 X G c
theorem lk_fns (x : Str) : ∀ l : List (Nat × Str × Nat × List Str × List Bool), (l.map fun r => (r.2.1, fnOfRow r)).lookup x = (l.find? fun r => r.2.1 == x).map fnOfRow
  | [] => rfl
  | r :: l => by
    rw [List.map_cons, List.lookup_cons, List.find?_cons]
    cases q : r.2.1 == x with
    | true =>
      have e : x == r.2.1 := by rw [eq_of_beq q]; exact beq_self_eq_true _
      rw [show (x == r.2.1) = true from e]
      rfl
    | false =>
      have e : (x == r.2.1) = false := by
        cases z : x == r.2.1 with
        | false => rfl
        | true => rw [eq_of_beq z, beq_self_eq_true] at q; cases q
      rw [e]
      exact lk_fns x l
theorem lk_prog (x : Str) : prog.fns.lookup x = (rows.find? fun r => r.2.1 == x).map fnOfRow := lk_fns x rows
theorem mods (X : K.In h) (G : h.Ns mainGlobals mg) (c : SaysZ chk dfs ts w K) (P : Program) (base : Heap) (n : Nat) : Mo T (prog.cxt (prog.call n)) P w K mg base n := by
  refine prog_Z (fun x n e => ?_) (names X G c) (fun x => ?_) n
  · have e1 : (rows.find? fun r => r.2.1 == x).map (·.2.2.1) = some n := e
    cases q : rows.find? fun r => r.2.1 == x with
    | none => rw [q] at e1; cases e1
    | some r =>
      have ex : r.2.1 = x := eq_of_beq (List.find?_some (p := fun r : Nat × Str × Nat × List Str × List Bool => r.2.1 == x) q)
      subst ex
      exact ⟨_, by rw [lk_prog, q]; rfl, defs_all X G c r (List.mem_of_find?_eq_some q)⟩
  · rw [lk_prog, Option.map_map]
    rfl
end
end K21
open PySem PySem.W PySem.Calls PyProof.Rows
theorem K21.holds_of (hF : ∀ ns : List Int, ns.length ≤ 63 → ∃ outs, K21.prog.call 20 "law" [.frz (.scr ns)] = .ok (.frz (.bl true)) outs) : PySem.Challenge.rw_neverbelow_k21_lines_and_forms.Holds := by
  w_on; o_law
  refine HandSHeadRun.head_any (r := OpenLaw.row PySem.Challenge.rw_neverbelow_k21_lines_and_forms) (q := view (OpenLaw.row PySem.Challenge.rw_neverbelow_k21_lines_and_forms).prog [36]) (H := K21.hk) (ob := K21.ob) (M := 4000) (loose := K21.loose) (d := HandSHeadRun.topDef (OpenLaw.row PySem.Challenge.rw_neverbelow_k21_lines_and_forms).prog 36) (kwd := []) K21.ob_eq
    (by kernel_rfl) (fun s => by kernel_rfl) K21.run (by kernel_rfl) (by kernel_rfl) (by kernel_rfl) (by rfl) (by first | assumption | decide +kernel) (by decide +kernel) ⟨rfl, rfl, rfl, rfl, rfl, by decide +kernel⟩ ?hw ?hc
  case hw => w_witness2
  case hc =>
    refine Z.walk_Z (l := PySem.Challenge.rw_neverbelow_k21_lines_and_forms) (n := 63) (k := 20) (F := K21.prog.call 20 "law") rfl (by decide) (by kernel_rfl) ⟨by decide +kernel, by decide +kernel⟩ ?G hF
    intro w mg fa h Y G hmg0
    obtain ⟨K, KX, nl, c⟩ := Y
    have hmg : mg ("law" : PySem.Str) = some (.ref fa) := by
      have e : (HandSHeadRun.topDef (OpenLaw.row PySem.Challenge.rw_neverbelow_k21_lines_and_forms).prog 36).name = ("law" : PySem.Str) := by kernel_rfl
      rw [← e]
      exact hmg0
    refine ⟨K, KX, nl, fun base => ?_⟩
    obtain ⟨f, fd, ps, F, _, hb, hm, _, hl⟩ := (K21.mods KX G c (PySem.Challenge.rw_neverbelow_k21_lines_and_forms).prog base 20).fn "law" 1 (by decide +kernel)
    rw [hmg] at hm
    cases hm
    exact ⟨fd, ps, F, hb, hl⟩
end

section
set_option Elab.async false
set_option linter.all false
set_option maxRecDepth 100000
set_option maxHeartbeats 0
namespace P_k21
open Z PySem
def f_is_integer : Fn := ⟨"is_integer", 1, ["term"], [false], [.ret (.bi "isinstance" [.var 0 "term" p0, .glb "int" p0] p0 p0) p0]⟩
def f_is_row : Fn := ⟨"is_row", 1, ["term", "entry"], [false], [.ret (.band [.bi "isinstance" [.var 0 "term" p0, .glb "tuple" p0] p0 p0, .bi "all" [.lc (.call "is_integer" [.var 1 "entry" p0] p0 p0) (.var 1 "entry" p0) (.var 0 "term" p0) [] [1] sc0 p0] p0 p0] p0) p0]⟩
def f_are_pairs : Fn := ⟨"are_pairs", 1, ["term", "entry"], [false], [.ret (.band [.bi "isinstance" [.var 0 "term" p0, .glb "tuple" p0] p0 p0, .bi "all" [.lc (.call "is_row" [.var 1 "entry" p0] p0 p0) (.var 1 "entry" p0) (.var 0 "term" p0) [] [1] sc0 p0] p0 p0] p0) p0]⟩
def f_is_told_table : Fn := ⟨"is_told_table", 1, ["term", "entry"], [false], [.ret (.band [.bi "isinstance" [.var 0 "term" p0, .glb "tuple" p0] p0 p0, .bi "all" [.lc (.call "are_pairs" [.var 1 "entry" p0] p0 p0) (.var 1 "entry" p0) (.var 0 "term" p0) [] [1] sc0 p0] p0 p0] p0) p0]⟩
def f_is_told_poly : Fn := ⟨"is_told_poly", 1, ["term", "entry", "powers", "part"], [false], [.ifs (.bor [.nt (.bi "isinstance" [.var 0 "term" p0, .glb "tuple" p0] p0 p0) p0, .nt (.bi "all" [.lc (.band [.bi "isinstance" [.var 1 "entry" p0, .glb "tuple" p0] p0 p0, .cmp .eq (.bi "len" [.var 1 "entry" p0] p0 p0) (.int 2 0 p0) p0] p0) (.var 1 "entry" p0) (.var 0 "term" p0) [] [1] sc0 p0] p0 p0) p0] p0) [.ret (.bl false 0 p0) p0] [] p0,
  .ret (.bi "all" [.lc (.band [.call "is_row" [.var 2 "powers" p0] p0 p0, .call "is_row" [.var 3 "part" p0] p0 p0] p0) (.tup [.var 2 "powers" p0, .var 3 "part" p0] 0 p0) (.var 0 "term" p0) [] [2, 3] sc0 p0] p0 p0) p0]⟩
def f_has_form : Fn := ⟨"has_form", 2, ["thing", "term"], [false, false], [.ifs (.cmp .nin (.var 0 "thing" p0) (.glb "FORMS" p0) p0) [.rais "BadNumber" [.str "there is no such thing" 0 p0] p0 p0 p0] [] p0,
  .ret (.calle (.sub (.glb "FORMS" p0) (.var 0 "thing" p0) p0) [.var 1 "term" p0] p0) p0]⟩
def f_words_of : Fn := ⟨"words_of", 1, ["line", "words", "word", "char"], [false], [.asg (.var 1 "words" p0) (.meth (.var 0 "line" p0) "split" [.str " " 0 p0] p0 p0) p0,
  .fors (.var 2 "word" p0) (.var 1 "words" p0) [.ifs (.bor [.cmp .eq (.var 2 "word" p0) (.str "" 0 p0) p0, .nt (.bi "all" [.lc (.chn .le .le (.str "!" 0 p0) (.var 3 "char" p0) (.str "~" 0 p0) p0) (.var 3 "char" p0) (.var 2 "word" p0) [] [3] sc0 p0] p0 p0) p0] p0) [.ret (.non 0 p0) p0] [] p0] p0,
  .ret (.var 1 "words" p0) p0]⟩
def f_is_name : Fn := ⟨"is_name", 1, ["word", "char"], [false], [.ret (.band [.chn .le .le (.int 1 0 p0) (.bi "len" [.var 0 "word" p0] p0 p0) (.int 12 0 p0) p0, .bi "all" [.lc (.cmp .inx (.var 1 "char" p0) (.glb "SMALL" p0) p0) (.var 1 "char" p0) (.var 0 "word" p0) [] [1] sc0 p0] p0 p0] p0) p0]⟩
def f_number_in : Fn := ⟨"number_in", 1, ["word", "char"], [false], [.ifs (.bor [.nt (.chn .le .le (.int 1 0 p0) (.bi "len" [.var 0 "word" p0] p0 p0) (.int 2 0 p0) p0) p0, .nt (.bi "all" [.lc (.cmp .inx (.var 1 "char" p0) (.glb "FIGURES" p0) p0) (.var 1 "char" p0) (.var 0 "word" p0) [] [1] sc0 p0] p0 p0) p0] p0) [.ret (.non 0 p0) p0] [] p0,
  .ifs (.band [.cmp .eq (.bi "len" [.var 0 "word" p0] p0 p0) (.int 2 0 p0) p0, .cmp .eq (.sub (.var 0 "word" p0) (.int 0 0 p0) p0) (.str "0" 0 p0) p0] p0) [.ret (.non 0 p0) p0] [] p0,
  .ret (.bi "int" [.var 0 "word" p0] p0 p0) p0]⟩
def f__law_number : Fn := ⟨"_law_number", 1, ["cell"], [false], [.ifs (.cmp .lt (.var 0 "cell" p0) (.int 0 0 p0) p0) [.ret (.bin .sub (.int 0 0 p0) (.var 0 "cell" p0) p0) p0] [] p0,
  .ret (.var 0 "cell" p0) p0]⟩
def f__law_draws : Fn := ⟨"_law_draws", 1, ["script", "draws", "cell", "rest", "k", "once", "twice"], [false], [.asg (.var 1 "draws" p0) (.lst [] p0) p0,
  .fors (.var 2 "cell" p0) (.var 0 "script" p0) [.asg (.var 3 "rest" p0) (.call "_law_number" [.var 2 "cell" p0] p0 p0) p0,
  .ifs (.cmp .ge (.var 3 "rest" p0) (.int 1000000000000000000 0 p0) p0) [.fors (.var 4 "k" p0) (.bi "range" [.int 60 0 p0] p0 p0) [.ifs (.cmp .eq (.var 3 "rest" p0) (.int 0 0 p0) p0) [.brk p0] [] p0,
  .expr (.meth (.var 1 "draws" p0) "append" [.bin .mod (.bi "int" [.var 3 "rest" p0] p0 p0) (.int 1000 0 p0) p0] p0 p0) p0,
  .asg (.var 3 "rest" p0) (.bin .fdv (.var 3 "rest" p0) (.int 1000 0 p0) p0) p0] p0] [.asg (.var 5 "once" p0) (.bin .mod (.bi "int" [.bin .add (.bin .mul (.var 3 "rest" p0) (.int 48271 0 p0) p0) (.int 11 0 p0) p0] p0 p0) (.int 2147483647 0 p0) p0) p0,
  .asg (.var 6 "twice" p0) (.bin .mod (.bi "int" [.bin .add (.bin .mul (.var 5 "once" p0) (.int 69621 0 p0) p0) (.var 3 "rest" p0) p0] p0 p0) (.int 2147483629 0 p0) p0) p0,
  .expr (.meth (.var 1 "draws" p0) "extend" [.lst [.bin .mod (.bi "int" [.var 3 "rest" p0] p0 p0) (.int 1000 0 p0) p0, .bin .mod (.bi "int" [.var 5 "once" p0] p0 p0) (.int 1000 0 p0) p0, .bin .mod (.bi "int" [.var 6 "twice" p0] p0 p0) (.int 1000 0 p0) p0] p0] p0 p0) p0] p0] p0,
  .expr (.meth (.var 1 "draws" p0) "reverse" [] p0 p0) p0,
  .ret (.var 1 "draws" p0) p0]⟩
def f__law_next : Fn := ⟨"_law_next", 1, ["draws"], [true], [.ifs (.var 0 "draws" p0) [.ret (.meth (.var 0 "draws" p0) "pop" [] p0 p0) p0] [] p0,
  .ret (.int 0 0 p0) p0]⟩
def f__law_more : Fn := ⟨"_law_more", 2, ["draws", "many", "seed", "more", "k"], [true, false], [.asg (.var 2 "seed" p0) (.bin .add (.bin .add (.bin .mul (.int 1000 0 p0) (.call "_law_next" [.var 0 "draws" p0] p0 p0) p0) (.call "_law_next" [.var 0 "draws" p0] p0 p0) p0) (.int 1 0 p0) p0) p0,
  .asg (.var 3 "more" p0) (.lst [] p0) p0,
  .fors (.var 4 "k" p0) (.bi "range" [.var 1 "many" p0] p0 p0) [.asg (.var 2 "seed" p0) (.bin .mod (.bi "int" [.bin .add (.bin .mul (.var 2 "seed" p0) (.int 48271 0 p0) p0) (.int 12345 0 p0) p0] p0 p0) (.int 2147483647 0 p0) p0) p0,
  .expr (.meth (.var 3 "more" p0) "append" [.bin .mod (.bi "int" [.bin .fdv (.var 2 "seed" p0) (.int 7 0 p0) p0] p0 p0) (.int 1000 0 p0) p0] p0 p0) p0] p0,
  .ret (.bin .add (.var 3 "more" p0) (.var 0 "draws" p0) p0) p0]⟩
def f__law_pick : Fn := ⟨"_law_pick", 2, ["draws", "some"], [true, false], [.ret (.sub (.var 1 "some" p0) (.bin .mod (.bi "int" [.call "_law_next" [.var 0 "draws" p0] p0 p0] p0 p0) (.bi "len" [.var 1 "some" p0] p0 p0) p0) p0) p0]⟩
def f__law_kind : Fn := ⟨"_law_kind", 1, ["error", "names", "found"], [false], [.asg (.var 1 "names" p0) (.lst [.str "poly" 0 p0, .str "table" 0 p0, .str "place" 0 p0, .str "paper" 0 p0, .str "number" 0 p0, .str "none" 0 p0, .str "large" 0 p0] p0) p0,
  .asg (.var 2 "found" p0) (.lst [.bi "isinstance" [.var 0 "error" p0, .glb "NotPoly" p0] p0 p0, .bi "isinstance" [.var 0 "error" p0, .glb "NotTable" p0] p0 p0, .bi "isinstance" [.var 0 "error" p0, .glb "NotPlace" p0] p0 p0, .bi "isinstance" [.var 0 "error" p0, .glb "NotPaper" p0] p0 p0] p0) p0,
  .asg (.var 2 "found" p0) (.bin .add (.var 2 "found" p0) (.lst [.bi "isinstance" [.var 0 "error" p0, .glb "BadNumber" p0] p0 p0, .bi "isinstance" [.var 0 "error" p0, .glb "NoAnswer" p0] p0 p0, .bi "isinstance" [.var 0 "error" p0, .glb "TooLarge" p0] p0 p0] p0) p0) p0,
  .ret (.ife (.cmp .eq (.meth (.var 2 "found" p0) "count" [.bl true 0 p0] p0 p0) (.int 1 0 p0) p0) (.bin .add (.str "!" 0 p0) (.sub (.var 1 "names" p0) (.meth (.var 2 "found" p0) "index" [.bl true 0 p0] p0 p0) p0) p0) (.str "!other" 0 p0) p0) p0]⟩
def f__law_line : Fn := ⟨"_law_line", 1, ["line", "words", "word", "sign"], [false], [.asg (.var 1 "words" p0) (.meth (.var 0 "line" p0) "split" [.str " " 0 p0] p0 p0) p0,
  .fors (.var 2 "word" p0) (.var 1 "words" p0) [.ifs (.bor [.cmp .eq (.var 2 "word" p0) (.str "" 0 p0) p0, .nt (.bi "all" [.lc (.chn .le .le (.str "!" 0 p0) (.var 3 "sign" p0) (.str "~" 0 p0) p0) (.var 3 "sign" p0) (.var 2 "word" p0) [] [3] sc0 p0] p0 p0) p0] p0) [.ret (.non 0 p0) p0] [] p0] p0,
  .ret (.var 1 "words" p0) p0]⟩
def f__law_number_of : Fn := ⟨"_law_number_of", 1, ["word", "k"], [false], [.ret (.ife (.cmp .inx (.var 0 "word" p0) (.lc (.bi "str" [.var 1 "k" p0] p0 p0) (.var 1 "k" p0) (.bi "range" [.int 100 0 p0] p0 p0) [] [1] sc0 p0) p0) (.bi "int" [.var 0 "word" p0] p0 p0) (.non 0 p0) p0) p0]⟩
def f__law_is_row : Fn := ⟨"_law_is_row", 1, ["term", "entry"], [false], [.ret (.band [.bi "isinstance" [.var 0 "term" p0, .glb "tuple" p0] p0 p0, .bi "all" [.lc (.bi "isinstance" [.var 1 "entry" p0, .glb "int" p0] p0 p0) (.var 1 "entry" p0) (.var 0 "term" p0) [] [1] sc0 p0] p0 p0] p0) p0]⟩
def f__law_are_pairs : Fn := ⟨"_law_are_pairs", 1, ["term", "entry"], [false], [.ret (.band [.bi "isinstance" [.var 0 "term" p0, .glb "tuple" p0] p0 p0, .bi "all" [.lc (.call "_law_is_row" [.var 1 "entry" p0] p0 p0) (.var 1 "entry" p0) (.var 0 "term" p0) [] [1] sc0 p0] p0 p0] p0) p0]⟩
def f__law_due : Fn := ⟨"_law_due", 2, ["thing", "term", "entry", "powers", "part"], [false, false], [.ifs (.cmp .eq (.var 0 "thing" p0) (.str "row" 0 p0) p0) [.ret (.call "_law_is_row" [.var 1 "term" p0] p0 p0) p0] [] p0,
  .ifs (.cmp .eq (.var 0 "thing" p0) (.str "fractions" 0 p0) p0) [.ret (.call "_law_are_pairs" [.var 1 "term" p0] p0 p0) p0] [] p0,
  .ifs (.cmp .eq (.var 0 "thing" p0) (.str "table" 0 p0) p0) [.ret (.band [.bi "isinstance" [.var 1 "term" p0, .glb "tuple" p0] p0 p0, .bi "all" [.lc (.call "_law_are_pairs" [.var 2 "entry" p0] p0 p0) (.var 2 "entry" p0) (.var 1 "term" p0) [] [2] sc0 p0] p0 p0] p0) p0] [] p0,
  .ifs (.bor [.nt (.bi "isinstance" [.var 1 "term" p0, .glb "tuple" p0] p0 p0) p0, .nt (.bi "all" [.lc (.band [.bi "isinstance" [.var 2 "entry" p0, .glb "tuple" p0] p0 p0, .cmp .eq (.bi "len" [.var 2 "entry" p0] p0 p0) (.int 2 0 p0) p0] p0) (.var 2 "entry" p0) (.var 1 "term" p0) [] [2] sc0 p0] p0 p0) p0] p0) [.ret (.bl false 0 p0) p0] [] p0,
  .ret (.bi "all" [.lc (.band [.call "_law_is_row" [.var 3 "powers" p0] p0 p0, .call "_law_is_row" [.var 4 "part" p0] p0 p0] p0) (.tup [.var 3 "powers" p0, .var 4 "part" p0] 0 p0) (.var 1 "term" p0) [] [3, 4] sc0 p0] p0 p0) p0]⟩
def f__law_spoilt : Fn := ⟨"_law_spoilt", 2, ["draws", "term", "at", "kind"], [true, false], [.ifs (.bor [.nt (.bi "isinstance" [.var 1 "term" p0, .glb "tuple" p0] p0 p0) p0, .cmp .eq (.bin .mod (.bi "int" [.call "_law_next" [.var 0 "draws" p0] p0 p0] p0 p0) (.int 6 0 p0) p0) (.int 0 0 p0) p0] p0) [.ret (.call "_law_pick" [.var 0 "draws" p0, .lst [.non 0 p0, .str "ada" 0 p0, .str "" 0 p0, .int 5 0 p0, .tup [] 0 p0, .tup [.int 1 0 p0] 0 p0, .tup [.tup [] 0 p0] 0 p0, .tup [.str "a" 0 p0] 0 p0, .var 1 "term" p0] p0] p0 p0) p0] [] p0,
  .ifs (.cmp .eq (.var 1 "term" p0) (.tup [] 0 p0) p0) [.ret (.call "_law_pick" [.var 0 "draws" p0, .lst [.tup [.int 0 0 p0] 0 p0, .tup [.str "" 0 p0] 0 p0, .tup [.tup [] 0 p0] 0 p0, .non 0 p0] p0] p0 p0) p0] [] p0,
  .asg (.var 2 "at" p0) (.bin .mod (.bi "int" [.call "_law_next" [.var 0 "draws" p0] p0 p0] p0 p0) (.bi "len" [.var 1 "term" p0] p0 p0) p0) p0,
  .asg (.var 3 "kind" p0) (.bin .mod (.bi "int" [.call "_law_next" [.var 0 "draws" p0] p0 p0] p0 p0) (.int 5 0 p0) p0) p0,
  .ifs (.cmp .eq (.var 3 "kind" p0) (.int 0 0 p0) p0) [.ret (.bin .add (.slc (.var 1 "term" p0) none (some (.var 2 "at" p0)) none p0 p0) (.slc (.var 1 "term" p0) (some (.bin .add (.var 2 "at" p0) (.int 1 0 p0) p0)) none none p0 p0) p0) p0] [] p0,
  .ret (.ife (.cmp .eq (.var 3 "kind" p0) (.int 1 0 p0) p0) (.bin .add (.var 1 "term" p0) (.slc (.var 1 "term" p0) (some (.var 2 "at" p0)) (some (.bin .add (.var 2 "at" p0) (.int 1 0 p0) p0)) none p0 p0) p0) (.bin .add (.bin .add (.slc (.var 1 "term" p0) none (some (.var 2 "at" p0)) none p0 p0) (.tup [.call "_law_spoilt" [.var 0 "draws" p0, .sub (.var 1 "term" p0) (.var 2 "at" p0) p0] p0 p0] 0 p0) p0) (.slc (.var 1 "term" p0) (some (.bin .add (.var 2 "at" p0) (.int 1 0 p0) p0)) none none p0 p0) p0) p0) p0]⟩
def f_law : Fn := ⟨"law", 1, ["script", "draws", "turn", "line", "word", "small", "terms", "term", "kinds", "wrong", "error", "at", "sign", "thing"], [false], [.asg (.var 1 "draws" p0) (.call "_law_draws" [.var 0 "script" p0] p0 p0) p0,
  .asg (.var 1 "draws" p0) (.call "_law_more" [.var 1 "draws" p0, .int 200 0 p0] p0 p0) p0,
  .ifs (.cmp .ne (.lst [.call "words_of" [.str "a b" 0 p0] p0 p0, .call "is_name" [.str "abcdefghijkl" 0 p0] p0 p0, .call "is_name" [.str "abcdefghijklm" 0 p0] p0 p0, .call "number_in" [.str "07" 0 p0] p0 p0, .call "number_in" [.str "99" 0 p0] p0 p0] p0) (.lst [.lst [.str "a" 0 p0, .str "b" 0 p0] p0, .bl true 0 p0, .bl false 0 p0, .non 0 p0, .int 99 0 p0] p0) p0) [.ret (.bl false 0 p0) p0] [] p0,
  .fors (.var 2 "turn" p0) (.bi "range" [.int 6 0 p0] p0 p0) [.asg (.var 3 "line" p0) (.meth (.str "" 0 p0) "join" [.lc (.call "_law_pick" [.var 1 "draws" p0, .lst [.str "a" 0 p0, .str "b" 0 p0, .str " " 0 p0, .str "0" 0 p0, .str "7" 0 p0, .str "~" 0 p0, .str "!" 0 p0, .str "(" 0 p0, .str "A" 0 p0, .str "\t" 0 p0, .str "-" 0 p0, .str "z" 0 p0, .str "  " 0 p0] p0] p0 p0) (.var 11 "at" p0) (.bi "range" [.bin .mod (.bi "int" [.call "_law_next" [.var 1 "draws" p0] p0 p0] p0 p0) (.int 9 0 p0) p0] p0 p0) [] [11] sc0 p0] p0 p0) p0,
  .ifs (.cmp .ne (.bi "repr" [.call "words_of" [.var 3 "line" p0] p0 p0] p0 p0) (.bi "repr" [.call "_law_line" [.var 3 "line" p0] p0 p0] p0 p0) p0) [.ret (.bl false 0 p0) p0] [] p0,
  .asg (.var 4 "word" p0) (.meth (.str "" 0 p0) "join" [.lc (.call "_law_pick" [.var 1 "draws" p0, .lst [.str "a" 0 p0, .str "k" 0 p0, .str "z" 0 p0, .str "9" 0 p0, .str "0" 0 p0, .str "1" 0 p0, .str "" 0 p0, .str "" 0 p0, .str "B" 0 p0] p0] p0 p0) (.var 11 "at" p0) (.bi "range" [.bin .mod (.bi "int" [.call "_law_next" [.var 1 "draws" p0] p0 p0] p0 p0) (.int 15 0 p0) p0] p0 p0) [] [11] sc0 p0] p0 p0) p0,
  .asg (.var 5 "small" p0) (.band [.chn .le .le (.int 1 0 p0) (.bi "len" [.var 4 "word" p0] p0 p0) (.int 12 0 p0) p0, .bi "all" [.lc (.cmp .inx (.var 12 "sign" p0) (.str "abcdefghijklmnopqrstuvwxyz" 0 p0) p0) (.var 12 "sign" p0) (.var 4 "word" p0) [] [12] sc0 p0] p0 p0] p0) p0,
  .ifs (.cmp .ne (.bi "repr" [.lst [.call "is_name" [.var 4 "word" p0] p0 p0, .call "number_in" [.var 4 "word" p0] p0 p0] p0] p0 p0) (.bi "repr" [.lst [.var 5 "small" p0, .call "_law_number_of" [.var 4 "word" p0] p0 p0] p0] p0 p0) p0) [.ret (.bl false 0 p0) p0] [] p0] p0,
  .ifs (.cmp .ne (.lc (.bi "repr" [.call "number_in" [.var 4 "word" p0] p0 p0] p0 p0) (.var 4 "word" p0) (.lst [.str "" 0 p0, .str "0" 0 p0, .str "00" 0 p0, .str "100" 0 p0, .str "-1" 0 p0, .str "5" 0 p0, .str "+5" 0 p0, .str " 5" 0 p0, .str "5 " 0 p0] p0) [] [4] sc0 p0) (.lst [.str "None" 0 p0, .str "0" 0 p0, .str "None" 0 p0, .str "None" 0 p0, .str "None" 0 p0, .str "5" 0 p0, .str "None" 0 p0, .str "None" 0 p0, .str "None" 0 p0] p0) p0) [.ret (.bl false 0 p0) p0] [] p0,
  .asg (.var 6 "terms" p0) (.lst [.tup [.tup [.tup [.int 0 0 p0, .int 2 0 p0] 0 p0, .tup [.int 1 0 p0, .int 1 0 p0] 0 p0] 0 p0, .tup [.tup [.int 2 0 p0, .int 0 0 p0] 0 p0, .tup [.int 1 0 p0] 0 p0] 0 p0] 0 p0, .tup [.tup [.int 1 0 p0, .int 1 0 p0] 0 p0, .tup [.int 2 0 p0, .int 1 0 p0] 0 p0] 0 p0, .tup [.tup [.tup [.int 1 0 p0] 0 p0] 0 p0, .tup [.tup [.int 2 0 p0] 0 p0] 0 p0] 0 p0, .tup [.int 0 0 p0, .int 1 0 p0, .int 1 0 p0] 0 p0, .tup [.tup [] 0 p0, .tup [.tup [.int 1 0 p0] 0 p0] 0 p0] 0 p0] p0) p0,
  .fors (.var 7 "term" p0) (.bin .add (.bin .add (.var 6 "terms" p0) (.lc (.call "_law_spoilt" [.var 1 "draws" p0, .call "_law_pick" [.var 1 "draws" p0, .var 6 "terms" p0] p0 p0] p0 p0) (.var 2 "turn" p0) (.bi "range" [.int 12 0 p0] p0 p0) [] [2] sc0 p0) p0) (.lst [.tup [] 0 p0, .non 0 p0, .str "" 0 p0, .int 0 0 p0] p0) p0) [.asg (.var 8 "kinds" p0) (.lst [.str "poly" 0 p0, .str "fractions" 0 p0, .str "table" 0 p0, .str "row" 0 p0] p0) p0,
  .ifs (.cmp .ne (.lc (.call "has_form" [.var 13 "thing" p0, .var 7 "term" p0] p0 p0) (.var 13 "thing" p0) (.var 8 "kinds" p0) [] [13] sc0 p0) (.lc (.call "_law_due" [.var 13 "thing" p0, .var 7 "term" p0] p0 p0) (.var 13 "thing" p0) (.var 8 "kinds" p0) [] [13] sc0 p0) p0) [.ret (.bl false 0 p0) p0] [] p0] p0,
  .fors (.var 9 "wrong" p0) (.lst [.str "" 0 p0, .str "Form" 0 p0, .str "term" 0 p0] p0) [.tryx [.expr (.call "has_form" [.var 9 "wrong" p0, .tup [] 0 p0] p0 p0) p0,
  .ret (.bl false 0 p0) p0] "BelowError" p0 (some (10, "error")) [.ifs (.cmp .ne (.call "_law_kind" [.var 10 "error" p0] p0 p0) (.str "!number" 0 p0) p0) [.ret (.bl false 0 p0) p0] [] p0] p0 p0] p0,
  .ret (.bl true 0 p0) p0]⟩
def fns : List (Str × Fn) := [kf "is_integer" f_is_integer, kf "is_row" f_is_row, kf "are_pairs" f_are_pairs, kf "is_told_table" f_is_told_table, kf "is_told_poly" f_is_told_poly, kf "has_form" f_has_form, kf "words_of" f_words_of, kf "is_name" f_is_name, kf "number_in" f_number_in, kf "_law_number" f__law_number, kf "_law_draws" f__law_draws, kf "_law_next" f__law_next, kf "_law_more" f__law_more, kf "_law_pick" f__law_pick, kf "_law_kind" f__law_kind, kf "_law_line" f__law_line, kf "_law_number_of" f__law_number_of, kf "_law_is_row" f__law_is_row, kf "_law_are_pairs" f__law_are_pairs, kf "_law_due" f__law_due, kf "_law_spoilt" f__law_spoilt, kf "law" f_law]
def con : List (Str × D) := [kd "int" (.fn "int"), kd "str" (.fn "str"), kd "bool" (.fn "bool"), kd "tuple" (.fn "tuple"), kd "list" (.fn "list"), kd "dict" (.fn "dict"), kd "BelowError" (.fn "BelowError"), kd "NotPoly" (.fn "NotPoly"), kd "NotTable" (.fn "NotTable"), kd "NotPlace" (.fn "NotPlace"), kd "NotPaper" (.fn "NotPaper"), kd "BadNumber" (.fn "BadNumber"), kd "NoAnswer" (.fn "NoAnswer"), kd "TooLarge" (.fn "TooLarge"), kd "is_integer" (.fn "is_integer"), kd "is_row" (.fn "is_row"), kd "are_pairs" (.fn "are_pairs"), kd "is_told_table" (.fn "is_told_table"), kd "is_told_poly" (.fn "is_told_poly"), kd "FORMS" (.dct [(.str "poly", .fn "is_told_poly"), (.str "fractions", .fn "are_pairs"), (.str "table", .fn "is_told_table"), (.str "row", .fn "is_row")]), kd "has_form" (.fn "has_form"), kd "SMALL" (.str "abcdefghijklmnopqrstuvwxyz"), kd "FIGURES" (.str "0123456789"), kd "words_of" (.fn "words_of"), kd "is_name" (.fn "is_name"), kd "number_in" (.fn "number_in"), kd "_law_number" (.fn "_law_number"), kd "_law_draws" (.fn "_law_draws"), kd "_law_next" (.fn "_law_next"), kd "_law_more" (.fn "_law_more"), kd "_law_pick" (.fn "_law_pick"), kd "_law_kind" (.fn "_law_kind"), kd "_law_line" (.fn "_law_line"), kd "_law_number_of" (.fn "_law_number_of"), kd "_law_is_row" (.fn "_law_is_row"), kd "_law_are_pairs" (.fn "_law_are_pairs"), kd "_law_due" (.fn "_law_due"), kd "_law_spoilt" (.fn "_law_spoilt"), kd "law" (.fn "law")]
def sup : List (Str × Str) := [ks "BelowError" "ValueError", ks "NotPoly" "BelowError", ks "NotTable" "BelowError", ks "NotPlace" "BelowError", ks "NotPaper" "BelowError", ks "BadNumber" "BelowError", ks "NoAnswer" "BelowError", ks "TooLarge" "BelowError"]
def fld : List (Str × Str) := []
def prog : Prog := ⟨fns, con, sup, fld, 100000⟩
end P_k21
namespace K21
open PySem L2 Z
def Pg : Prog := ⟨P_k21.fns, con, sup, [], 100000⟩
theorem er_prog : prog.er = Pg := by kernel_rfl
theorem call_Pg (n : Nat) : prog.call n = Pg.call n := by rw [← er_prog, call_er]
end K21
end

section
set_option Elab.async false
set_option linter.all false
set_option maxRecDepth 100000
set_option maxHeartbeats 1000000
/-! ZWp: what is asked ahead of a run, from what is wanted behind it: rules for simp. -/
namespace Z.Y0
open PySem
variable {α β : Type}
def W (r : R α) (Q : α → Env → Prop) (X : Ex → Env → Prop) : Prop := match r with
  | .ok a s => Q a s
  | .ex x s => X x s
  | .st => False
def FW (r : FR) (Q : O → List O → Prop) (X : Ex → List O → Prop) : Prop := match r with
  | .ok a s => Q a s
  | .ex x s => X x s
  | .st => False
/-- something is there, and then K -/
def OK (o : Option α) (K : α → Prop) : Prop := match o with
  | some a => K a
  | none => False
def BK (b : Bool) (P N : Prop) : Prop := if b then P else N
/-- a variable's data, looked at -/
def gK (o : Option O) (K : D → Prop) : Prop := OK (o.bind frzO) K
def aK (a : A) (s : Env) (K : D → Prop) : Prop := OK (a.get s) K
/-- a variable as a value: frozen where it stands -/
def vK (o : Option O) (i : Nat) (s : Env) (K : D → Env → Prop) : Prop := match o with
  | some (.frz d) => K d s
  | some (.lst xs) => K (.lst xs) (s.set i (some (.frz (.lst xs))))
  | some (.dct xs) => K (.dct xs) (s.set i (some (.frz (.dct xs))))
  | _ => False
/-- a variable as an operand -/
def pK (o : Option O) (i : Nat) (s : Env) (K : A → Env → Prop) : Prop := match o with
  | some (.frz d) => K (.val d) s
  | some _ => K (.plc i) s
  | none => False
def KS (r : SR) (s : Env) (N : Env → Prop) (Q : SR → Env → Prop) : Prop := match r with
  | .nx => N s
  | r => Q r s
/-- what a loop's body says -/
def KL (r : SR) (s : Env) (N : Env → Prop) (Q : SR → Env → Prop) : Prop := match r with
  | .nx => N s
  | .ct => N s
  | .bk => Q .nx s
  | .rt o => Q (.rt o) s

theorem W_ok (a : α) (s : Env) (Q : α → Env → Prop) (X : Ex → Env → Prop) : W (.ok a s) Q X = Q a s := rfl
theorem W_ex (x : Ex) (s : Env) (Q : α → Env → Prop) (X : Ex → Env → Prop) : W (.ex x s) Q X = X x s := rfl
theorem W_st (Q : α → Env → Prop) (X : Ex → Env → Prop) : W .st Q X = False := rfl
theorem W_ite {c : Prop} [Decidable c] {a b : R α} {Q : α → Env → Prop} {X : Ex → Env → Prop} : W (if c then a else b) Q X = ((c → W a Q X) ∧ (¬c → W b Q X)) := by
  split <;> simp [*]
theorem FW_ok (a : O) (s : List O) (Q : O → List O → Prop) (X : Ex → List O → Prop) : FW (.ok a s) Q X = Q a s := rfl
theorem FW_ex (x : Ex) (s : List O) (Q : O → List O → Prop) (X : Ex → List O → Prop) : FW (.ex x s) Q X = X x s := rfl
theorem FW_st (Q : O → List O → Prop) (X : Ex → List O → Prop) : FW .st Q X = False := rfl
theorem FW_ite {c : Prop} [Decidable c] {a b : FR} {Q : O → List O → Prop} {X : Ex → List O → Prop} : FW (if c then a else b) Q X = ((c → FW a Q X) ∧ (¬c → FW b Q X)) := by
  split <;> simp [*]
theorem FW_mono {r : FR} {Q Q' : O → List O → Prop} {X X' : Ex → List O → Prop} (h : FW r Q X) (hq : ∀ a s, Q a s → Q' a s) (hx : ∀ a s, X a s → X' a s) : FW r Q' X' := by
  cases r with
  | ok a s => exact hq a s h
  | ex a s => exact hx a s h
  | st => exact h
theorem W_mono {r : R α} {Q Q' : α → Env → Prop} {X X' : Ex → Env → Prop} (h : W r Q X) (hq : ∀ a s, Q a s → Q' a s) (hx : ∀ a s, X a s → X' a s) : W r Q' X' := by
  cases r with
  | ok a s => exact hq a s h
  | ex a s => exact hx a s h
  | st => exact h
theorem OK_some (a : α) (K : α → Prop) : OK (some a) K = K a := rfl
theorem OK_none (K : α → Prop) : OK none K = False := rfl
theorem OK_ite {c : Prop} [Decidable c] {a b : Option α} {K : α → Prop} : OK (if c then a else b) K = ((c → OK a K) ∧ (¬c → OK b K)) := by
  split <;> simp [*]
theorem OK_itn {c : Prop} [Decidable c] {a : Option α} {K : α → Prop} : OK (if c then a else none) K = (c ∧ OK a K) := by
  split <;> simp [*, OK]
theorem OK_map {o : Option α} {f : α → β} {K : β → Prop} : OK (o.map f) K = OK o fun a => K (f a) := by cases o <;> rfl
theorem OK_bind {o : Option α} {f : α → Option β} {K : β → Prop} : OK (o.bind f) K = OK o fun a => OK (f a) K := by cases o <;> rfl
theorem BK_t (P N : Prop) : BK true P N = P := by simp [BK]
theorem BK_f (P N : Prop) : BK false P N = N := by simp [BK]
theorem BK_dec {p : Prop} [Decidable p] {P N : Prop} : BK (decide p) P N = ((p → P) ∧ (¬p → N)) := by
  unfold BK; by_cases h : p <;> simp [h]
theorem BK_not {b : Bool} {P N : Prop} : BK (!b) P N = BK b N P := by cases b <;> simp [BK]
theorem BK_any {b : Bool} {P N : Prop} : BK b P N = ((b = true → P) ∧ (b = false → N)) := by cases b <;> simp [BK]
theorem gK_frz (d : D) (K : D → Prop) : gK (some (.frz d)) K = K d := rfl
theorem gK_lst (d : List D) (K : D → Prop) : gK (some (.lst d)) K = K (.lst d) := rfl
theorem gK_dct (d : List (D × D)) (K : D → Prop) : gK (some (.dct d)) K = K (.dct d) := rfl
theorem aK_val (d : D) (s : Env) (K : D → Prop) : aK (.val d) s K = K d := rfl
theorem aK_plc (i : Nat) (s : Env) (K : D → Prop) : aK (.plc i) s K = gK (getO s i) K := rfl
theorem vK_frz (d : D) (i : Nat) (s : Env) (K : D → Env → Prop) : vK (some (.frz d)) i s K = K d s := rfl
theorem vK_lst (d : List D) (i : Nat) (s : Env) (K : D → Env → Prop) : vK (some (.lst d)) i s K = K (.lst d) (s.set i (some (.frz (.lst d)))) := rfl
theorem vK_dct (d : List (D × D)) (i : Nat) (s : Env) (K : D → Env → Prop) : vK (some (.dct d)) i s K = K (.dct d) (s.set i (some (.frz (.dct d)))) := rfl
theorem pK_frz (d : D) (i : Nat) (s : Env) (K : A → Env → Prop) : pK (some (.frz d)) i s K = K (.val d) s := rfl
theorem pK_lst (d : List D) (i : Nat) (s : Env) (K : A → Env → Prop) : pK (some (.lst d)) i s K = K (.plc i) s := rfl
theorem pK_dct (d : List (D × D)) (i : Nat) (s : Env) (K : A → Env → Prop) : pK (some (.dct d)) i s K = K (.plc i) s := rfl
theorem pK_ins (c : Str) (d : List (Str × D)) (i : Nat) (s : Env) (K : A → Env → Prop) : pK (some (.ins c d)) i s K = K (.plc i) s := rfl
theorem pK_exc (c : Str) (d : Option (Str × Int)) (i : Nat) (s : Env) (K : A → Env → Prop) : pK (some (.exc c d)) i s K = K (.plc i) s := rfl
theorem KS_nx (s : Env) (N : Env → Prop) (Q : SR → Env → Prop) : KS .nx s N Q = N s := rfl
theorem KS_rt (o : O) (s : Env) (N : Env → Prop) (Q : SR → Env → Prop) : KS (.rt o) s N Q = Q (.rt o) s := rfl
theorem KS_bk (s : Env) (N : Env → Prop) (Q : SR → Env → Prop) : KS .bk s N Q = Q .bk s := rfl
theorem KS_ct (s : Env) (N : Env → Prop) (Q : SR → Env → Prop) : KS .ct s N Q = Q .ct s := rfl
theorem KL_nx (s : Env) (N : Env → Prop) (Q : SR → Env → Prop) : KL .nx s N Q = N s := rfl
theorem KL_ct (s : Env) (N : Env → Prop) (Q : SR → Env → Prop) : KL .ct s N Q = N s := rfl
theorem KL_bk (s : Env) (N : Env → Prop) (Q : SR → Env → Prop) : KL .bk s N Q = Q .nx s := rfl
theorem KL_rt (o : O) (s : Env) (N : Env → Prop) (Q : SR → Env → Prop) : KL (.rt o) s N Q = Q (.rt o) s := rfl

section
variable {s : Env} {X : Ex → Env → Prop} {Q : α → Env → Prop}
theorem W_bind {m : M β} {f : β → M α} : W (M.bind m f s) Q X = W (m s) (fun a s' => W (f a s') Q X) X := by
  show W (match m s with | .ok a s' => f a s' | .ex x s' => .ex x s' | .st => .st) Q X = _
  cases m s <;> rfl
theorem W_pure {a : α} : W ((M.pure a : M α) s) Q X = Q a s := rfl
theorem W_stuck : W ((M.stuck : M α) s) Q X = False := rfl
theorem W_opt {o : Option α} : W (opt o s) Q X = OK o fun a => Q a s := by cases o <;> rfl
theorem W_iteM {b : Bool} {x y : M α} : W ((if b = true then x else y) s) Q X = BK b (W (x s) Q X) (W (y s) Q X) := by cases b <;> rfl
theorem W_matchA {a : A} {f : D → R α} : W (match a.get s with | some d => f d | none => .st) Q X = aK a s fun d => W (f d) Q X := by
  unfold aK; cases a.get s <;> rfl
theorem W_const {d : D} {Q : O → Env → Prop} : W (constD d s) Q X = Q (.frz d) s := rfl
end
end Z.Y0
end

section
set_option Elab.async false
set_option linter.all false
set_option maxRecDepth 100000
set_option maxHeartbeats 1000000
/-! ZWq: the rules, by the kinds of expressions. -/
namespace Z.Y0
open PySem
section
variable (C : Cxt)
def eV (e : E) (s : Env) : R O := (den C e).v s
def eA (e : E) (s : Env) : R A := (den C e).a s
def eT (e : E) (s : Env) : R Bool := (den C e).t s
def eI (e : E) (s : Env) : R (List D) := (den C e).it s
def eW (e : E) (s : Env) : R A := (den C e).w s
def eD (e : E) (s : Env) : R D := (den C e).d s
def eG (e : E) (o : O) (s : Env) : R Unit := (den C e).g o s
def eAs (es : List E) (s : Env) : R (List A) := asM (dens C es) s
def eDs (es : List E) (s : Env) : R (List D) := dsM (dens C es) s
def eSp (es : List E) (s : Env) : R (List D) := spM (dens C es) s
def eTs (c : Bool) (es : List E) (s : Env) : R Bool := tsM c (dens C es) s
def eAnd (es : List E) (s : Env) : R D := andM (dens C es) s
def eOr (es : List E) (s : Env) : R D := orM (dens C es) s
def eCs (es : List E) (fs : List Bool) (s : Env) : R (List A) := csM (dens C es) fs s
def eArg (e : E) (f : Bool) (s : Env) : R A := argM (den C e) f s
def eIfs (es : List E) (s : Env) : R Bool := ifsM (dens C es) s
def xSs (b : List S) (s : Env) : R SR := exSs C b s
def xS (b : S) (s : Env) : R SR := exS C b s
def lcR (own : List Nat) (el tg : E) (ifs : List E) (xs acc : List D) (s : Env) : R O := lcM own (den C el) (den C tg) (dens C ifs) xs acc s
def forR (t : E) (b : List S) (xs : List D) (s : Env) : R SR := forM (den C t).g (exSs C b) xs s
end
/-- which expressions have only a value: all their modes come from it -/
def isMk : E → Bool
  | .non _ _ => true
  | .bl _ _ _ => true
  | .int _ _ _ => true
  | .str _ _ _ => true
  | .glb _ _ => true
  | .bin _ _ _ _ => true
  | .neg _ _ => true
  | .ife _ _ _ _ => true
  | .call _ _ _ _ => true
  | .calle _ _ _ => true
  | .bi x _ _ _ => !isWalk x
  | .meth _ m _ _ _ => !(m == "items" || m == "values")
  | .attr _ _ _ => true
  | .sub _ _ _ => true
  | .slc _ _ _ _ _ _ => true
  | .lst _ _ => true
  | .tup _ _ _ => true
  | .dic _ _ _ => true
  | .lc _ _ _ _ _ _ _ => true
  | .lc2 _ _ _ _ _ _ _ _ _ => true
  | .dc _ _ _ _ _ _ _ _ => true
  | _ => false
/-- tests: their value comes from the test -/
def isTs : E → Bool
  | .nt _ _ => true
  | .band _ _ => true
  | .bor _ _ => true
  | .cmp _ _ _ _ => true
  | .chn _ _ _ _ _ _ => true
  | .chn3 _ _ _ _ _ _ _ _ => true
  | _ => false
def isV : E → Bool
  | .var _ _ _ => true
  | _ => false
def isStar : E → Bool
  | .star _ _ => true
  | _ => false
section
variable {C : Cxt} {s : Env} {X : Ex → Env → Prop}
theorem dOf_W {v : M O} {Q : D → Env → Prop} : W (dOf v s) Q X = W (v s) (fun o s1 => OK (frzO o) fun d => Q d s1) X := by
  unfold dOf; simp only [W_bind, W_opt]
theorem aOf_W {v : M O} {Q : A → Env → Prop} : W (aOf v s) Q X = W (v s) (fun o s1 => OK (frzO o) fun d => Q (.val d) s1) X := by
  unfold aOf; simp only [W_bind, W_opt, W_pure]
theorem tOf_W {v : M A} {Q : Bool → Env → Prop} : W (tOf v s) Q X = W (v s) (fun a s1 => aK a s1 fun d => OK d.tru fun b => Q b s1) X := by
  unfold tOf; simp only [W_bind]
  congr 1; funext a s1
  unfold aK
  cases a.get s1 with
  | none => rfl
  | some d => exact W_opt
theorem itOf_W {v : M O} {Q : List D → Env → Prop} : W (itOf v s) Q X = W (v s) (fun o s1 => OK (frzO o) fun d => OK (itemsD d) fun xs => Q xs s1) X := by
  unfold itOf; simp only [W_bind, W_opt, dOf_W]
theorem one_W {x : M A} {k : D → M α} {Q : α → Env → Prop} : W (one x k s) Q X = W (x s) (fun a s1 => aK a s1 fun d => W (k d s1) Q X) X := by
  unfold one; simp only [W_bind]
  congr 1; funext a s1
  unfold aK
  cases a.get s1 <;> rfl
theorem two_W {x y : M A} {k : D → D → M α} {Q : α → Env → Prop} : W (two x y k s) Q X = W (x s) (fun a s1 => W (y s1) (fun b s2 => aK a s2 fun u => aK b s2 fun v => W (k u v s2) Q X) X) X := by
  unfold two; simp only [W_bind]
  congr 1; funext a s1; congr 1; funext b s2
  unfold aK OK
  cases a.get s2 <;> cases b.get s2 <;> rfl
theorem many_W {x : M (List A)} {k : List D → M α} {Q : α → Env → Prop} : W (many x k s) Q X = W (x s) (fun as s1 => OK (gets s1 as) fun ds => W (k ds s1) Q X) X := by
  unfold many; simp only [W_bind]
  congr 1; funext a s1
  unfold OK
  cases gets s1 a <;> rfl
theorem blM_W {t : M Bool} {Q : O → Env → Prop} : W (blM t s) Q X = W (t s) (fun b s1 => Q (.frz (.bl b)) s1) X := by
  unfold blM; simp only [W_bind, W_const]
theorem eA_mk {e : E} (h : isMk e = true) {Q : A → Env → Prop} : W (eA C e s) Q X = W (eV C e s) (fun o s1 => OK (frzO o) fun d => Q (.val d) s1) X := by
  unfold eA eV
  cases e <;> first | (cases h; done) | (simp only [den, mkV, mkG, aOf_W]) | skip
  all_goals
    rename_i x _ _ _
    rw [isMk] at h
    simp only [den, Bool.not_eq_true'] at h ⊢
    simp only [h]
    exact aOf_W
theorem eT_mk {e : E} (h : isMk e = true) {Q : Bool → Env → Prop} : W (eT C e s) Q X = W (eV C e s) (fun o s1 => OK (frzO o) fun d => OK d.tru fun b => Q b s1) X := by
  unfold eT eV
  cases e <;> first | (cases h; done) | (simp only [den, mkV, mkG, tOf_W, aOf_W, aK_val]; done) | skip
  all_goals
    rename_i x _ _ _
    rw [isMk] at h
    simp only [den, Bool.not_eq_true'] at h ⊢
    simp only [h]
    simp only [Bool.false_eq_true, if_false, mkV, tOf_W, aOf_W, aK_val]
theorem eW_mk {e : E} (h : isMk e = true) {Q : A → Env → Prop} : W (eW C e s) Q X = W (eV C e s) (fun o s1 => OK (frzO o) fun d => Q (.val d) s1) X := by
  unfold eW eV
  cases e <;> first | (cases h; done) | (simp only [den, mkV, mkG, aOf_W]; done) | skip
  all_goals
    rename_i x _ _ _
    rw [isMk] at h
    simp only [den, Bool.not_eq_true'] at h ⊢
    simp only [h]
    simp only [Bool.false_eq_true, if_false, mkV, aOf_W]
theorem eI_mk {e : E} (h : isMk e = true) {Q : List D → Env → Prop} : W (eI C e s) Q X = W (eV C e s) (fun o s1 => OK (frzO o) fun d => OK (itemsD d) fun xs => Q xs s1) X := by
  unfold eI eV
  cases e <;> first | (cases h; done) | (simp only [den, mkV, mkG, itOf_W]; done) | skip
  all_goals
    rename_i x _ _ _
    rw [isMk] at h
    simp only [den, Bool.not_eq_true'] at h ⊢
    simp only [h]
    simp only [Bool.false_eq_true, if_false, mkV, itOf_W]
theorem eA_ts {e : E} (h : isTs e = true) {Q : A → Env → Prop} : W (eA C e s) Q X = W (eV C e s) (fun o s1 => OK (frzO o) fun d => Q (.val d) s1) X := by
  unfold eA eV
  cases e <;> first | (cases h; done) | (simp only [den, mkT, aOf_W]; done)
theorem eW_ts {e : E} (h : isTs e = true) {Q : A → Env → Prop} : W (eW C e s) Q X = W (eV C e s) (fun o s1 => OK (frzO o) fun d => Q (.val d) s1) X := by
  unfold eW eV
  cases e <;> first | (cases h; done) | (simp only [den, mkT, aOf_W]; done)
theorem eD_W {e : E} {Q : D → Env → Prop} : W (eD C e s) Q X = W (eV C e s) (fun o s1 => OK (frzO o) fun d => Q d s1) X := by
  unfold eD eV Den.d; exact dOf_W
theorem frzO_frz (d : D) : frzO (.frz d) = some d := rfl
theorem frzO_lst (d : List D) : frzO (.lst d) = some (.lst d) := rfl
theorem frzO_dct (d : List (D × D)) : frzO (.dct d) = some (.dct d) := rfl
theorem frzO_ins (c : Str) (d : List (Str × D)) : frzO (.ins c d) = none := rfl
theorem frzO_exc (c : Str) (d : Option (Str × Int)) : frzO (.exc c d) = none := rfl

/-! names, constants -/
theorem freeze_W {i : Nat} {Q : D → Env → Prop} : W (freezeVar i s) Q X = vK (getO s i) i s Q := by
  unfold freezeVar vK
  cases h : getO s i with
  | none => rfl
  | some o => cases o <;> rfl
variable {i : Nat} {x : Str} {p : Pos}
theorem eV_var {Q : O → Env → Prop} : W (eV C (.var i x p) s) Q X = vK (getO s i) i s fun d s1 => Q (.frz d) s1 := by
  unfold eV; simp only [den, W_bind, W_const, freeze_W]
theorem varA_W {Q : A → Env → Prop} : W (match getO s i with
      | some (.frz d) => (.ok (.val d) s : R A)
      | some _ => .ok (.plc i) s
      | none => .st) Q X = pK (getO s i) i s Q := by
  unfold pK
  cases h : getO s i with
  | none => rfl
  | some o => cases o <;> rfl
theorem eA_var {Q : A → Env → Prop} : W (eA C (.var i x p) s) Q X = pK (getO s i) i s Q := by
  unfold eA; simp only [den]; exact varA_W
theorem eW_var {Q : A → Env → Prop} : W (eW C (.var i x p) s) Q X = pK (getO s i) i s Q := by
  unfold eW; simp only [den]; exact varA_W
theorem eT_var {Q : Bool → Env → Prop} : W (eT C (.var i x p) s) Q X = pK (getO s i) i s fun a s1 => aK a s1 fun d => OK d.tru fun b => Q b s1 := by
  unfold eT; simp only [den, tOf_W]; exact varA_W
theorem eI_var {Q : List D → Env → Prop} : W (eI C (.var i x p) s) Q X = vK (getO s i) i s fun d s1 => OK (itemsD d) fun xs => Q xs s1 := by
  unfold eI; simp only [den, itOf_W, W_bind, W_const, freeze_W, frzO_frz, OK_some]
theorem eV_non {k : Nat} {Q : O → Env → Prop} : W (eV C (.non k p) s) Q X = Q (.frz .non) s := rfl
theorem eV_bl {b : Bool} {k : Nat} {Q : O → Env → Prop} : W (eV C (.bl b k p) s) Q X = Q (.frz (.bl b)) s := rfl
theorem eV_int {b : Int} {k : Nat} {Q : O → Env → Prop} : W (eV C (.int b k p) s) Q X = Q (.frz (.int b)) s := rfl
theorem eV_str {b : Str} {k : Nat} {Q : O → Env → Prop} : W (eV C (.str b k p) s) Q X = Q (.frz (.str b)) s := rfl
theorem eV_glb {Q : O → Env → Prop} : W (eV C (.glb x p) s) Q X = OK (C.con x) fun d => Q (.frz d) s := by
  unfold eV; simp only [den, mkV, W_bind, W_opt, W_const]
variable {a b c d : E} {es : List E}
theorem eV_bin {op : Bop} {Q : O → Env → Prop} : W (eV C (.bin op a b p) s) Q X = W (eA C a s) (fun x s1 => W (eA C b s1) (fun y s2 => aK x s2 fun u => aK y s2 fun v => OK (binD op u v) fun o => Q o s2) X) X := by
  unfold eV eA; simp only [den, mkV, two_W, W_opt]
def negD : D → Option D
  | .int i => some (.int (-i))
  | _ => none
theorem eV_neg {Q : O → Env → Prop} : W (eV C (.neg a p) s) Q X = W (eA C a s) (fun x s1 => aK x s1 fun u => OK (negD u) fun d => Q (.frz d) s1) X := by
  unfold eV eA; simp only [den, mkV, one_W]
  congr 1; funext y s1; congr 1; funext u
  cases u <;> rfl
theorem eT_nt {Q : Bool → Env → Prop} : W (eT C (.nt a p) s) Q X = W (eT C a s) (fun b s1 => Q (!b) s1) X := by
  unfold eT; simp only [den, mkT, W_bind, W_pure]
/-- a test of a value: its operand's truth -/
theorem eV_nt {Q : O → Env → Prop} : W (eV C (.nt a p) s) Q X = W (eA C a s) (fun x s1 => aK x s1 fun d => OK d.tru fun b => Q (.frz (.bl (!b))) s1) X := by
  unfold eV eA; simp only [den, mkT, blM_W, W_bind, W_pure, tOf_W]
theorem eV_band {Q : O → Env → Prop} : W (eV C (.band es p) s) Q X = W (eAnd C es s) (fun d s1 => Q (.frz d) s1) X := by
  unfold eV eAnd; simp only [den, mkT, W_bind, W_const]
theorem eV_bor {Q : O → Env → Prop} : W (eV C (.bor es p) s) Q X = W (eOr C es s) (fun d s1 => Q (.frz d) s1) X := by
  unfold eV eOr; simp only [den, mkT, W_bind, W_const]
theorem eT_band {Q : Bool → Env → Prop} : W (eT C (.band es p) s) Q X = W (eTs C true es s) Q X := rfl
theorem eT_bor {Q : Bool → Env → Prop} : W (eT C (.bor es p) s) Q X = W (eTs C false es s) Q X := rfl
theorem eAnd_one {Q : D → Env → Prop} : W (eAnd C [a] s) Q X = W (eD C a s) Q X := rfl
theorem eAnd_cons {Q : D → Env → Prop} : W (eAnd C (a :: b :: es) s) Q X = W (eD C a s) (fun d s1 => OK d.tru fun t => BK t (W (eAnd C (b :: es) s1) Q X) (Q d s1)) X := by
  unfold eAnd eD; simp only [dens, andM, W_bind, W_opt, W_iteM, W_pure]
theorem eOr_one {Q : D → Env → Prop} : W (eOr C [a] s) Q X = W (eD C a s) Q X := rfl
theorem eOr_cons {Q : D → Env → Prop} : W (eOr C (a :: b :: es) s) Q X = W (eD C a s) (fun d s1 => OK d.tru fun t => BK t (Q d s1) (W (eOr C (b :: es) s1) Q X)) X := by
  unfold eOr eD; simp only [dens, orM, W_bind, W_opt, W_iteM, W_pure]
theorem eTs_nil {c : Bool} {Q : Bool → Env → Prop} : W (eTs C c [] s) Q X = Q c s := rfl
theorem eTs_and {Q : Bool → Env → Prop} : W (eTs C true (a :: es) s) Q X = W (eT C a s) (fun t s1 => BK t (W (eTs C true es s1) Q X) (Q false s1)) X := by
  unfold eTs eT; simp only [dens, tsM, W_bind]
  congr 1; funext t s1
  cases t <;> rfl
theorem eTs_or {Q : Bool → Env → Prop} : W (eTs C false (a :: es) s) Q X = W (eT C a s) (fun t s1 => BK t (Q true s1) (W (eTs C false es s1) Q X)) X := by
  unfold eTs eT; simp only [dens, tsM, W_bind]
  congr 1; funext t s1
  cases t <;> rfl
theorem eT_cmp {op : Cop} {Q : Bool → Env → Prop} : W (eT C (.cmp op a b p) s) Q X = W (eA C a s) (fun x s1 => W (eA C b s1) (fun y s2 => aK x s2 fun u => aK y s2 fun v => OK (cmpD op u v) fun o => Q o s2) X) X := by
  unfold eT eA; simp only [den, mkT, two_W, W_opt]
theorem eV_cmp {op : Cop} {Q : O → Env → Prop} : W (eV C (.cmp op a b p) s) Q X = W (eA C a s) (fun x s1 => W (eA C b s1) (fun y s2 => aK x s2 fun u => aK y s2 fun v => OK (cmpD op u v) fun o => Q (.frz (.bl o)) s2) X) X := by
  unfold eV eA; simp only [den, mkT, blM_W, two_W, W_opt]
theorem chnT_W {op1 op2 : Cop} {x y z : M A} {Q : Bool → Env → Prop} : W (chnT op1 op2 x y z s) Q X = W (x s) (fun x s1 => W (y s1) (fun y s2 => aK x s2 fun u => aK y s2 fun v => OK (cmpD op1 u v) fun t =>
    BK t (W (z s2) (fun z s3 => aK y s3 fun v => aK z s3 fun w => OK (cmpD op2 v w) fun t => Q t s3) X) (Q false s2)) X) X := by
  unfold chnT; simp only [W_bind]
  congr 1; funext x s1; congr 1; funext y s2
  unfold aK
  cases x.get s2 <;> cases y.get s2 <;> first | rfl | skip
  simp only [OK_some, W_bind, W_opt, W_iteM, W_pure]
  congr 1; funext t; congr 1; congr 1; funext z s3
  cases y.get s3 <;> cases z.get s3 <;> first | rfl | exact W_opt
theorem eT_chn {op1 op2 : Cop} {Q : Bool → Env → Prop} : W (eT C (.chn op1 op2 a b c p) s) Q X = W (eA C a s) (fun x s1 => W (eA C b s1) (fun y s2 => aK x s2 fun u => aK y s2 fun v => OK (cmpD op1 u v) fun t =>
    BK t (W (eA C c s2) (fun z s3 => aK y s3 fun v => aK z s3 fun w => OK (cmpD op2 v w) fun t => Q t s3) X) (Q false s2)) X) X := by
  unfold eT eA; simp only [den, mkT, chnT_W]
theorem eV_chn {op1 op2 : Cop} {Q : O → Env → Prop} : W (eV C (.chn op1 op2 a b c p) s) Q X = W (eT C (.chn op1 op2 a b c p) s) (fun t s1 => Q (.frz (.bl t)) s1) X := by
  unfold eT eV; simp only [den, mkT, blM_W]
theorem eV_ife {Q : O → Env → Prop} : W (eV C (.ife c a b p) s) Q X = W (eT C c s) (fun t s1 => BK t (W (eV C a s1) Q X) (W (eV C b s1) Q X)) X := by
  unfold eV eT; simp only [den, mkV, W_bind, W_iteM]

/-! lists of expressions -/
theorem eAs_nil {Q : List A → Env → Prop} : W (eAs C [] s) Q X = Q [] s := rfl
theorem eAs_cons {Q : List A → Env → Prop} : W (eAs C (a :: es) s) Q X = W (eA C a s) (fun x s1 => W (eAs C es s1) (fun xs s2 => Q (x :: xs) s2) X) X := by
  unfold eAs eA; simp only [dens, asM, W_bind, W_pure]
theorem eDs_nil {Q : List D → Env → Prop} : W (eDs C [] s) Q X = Q [] s := rfl
theorem eDs_cons {Q : List D → Env → Prop} : W (eDs C (a :: es) s) Q X = W (eD C a s) (fun x s1 => W (eDs C es s1) (fun xs s2 => Q (x :: xs) s2) X) X := by
  unfold eDs eD; simp only [dens, dsM, W_bind, W_pure]
theorem star_den {e : E} (h : isStar e = false) : (den C e).star = false := by
  cases e <;> first | rfl | (cases h; done) | skip
  all_goals (simp only [den]; split <;> rfl)
theorem eSp_nil {Q : List D → Env → Prop} : W (eSp C [] s) Q X = Q [] s := rfl
theorem eSp_cons {Q : List D → Env → Prop} (h : isStar a = false) : W (eSp C (a :: es) s) Q X = W (eD C a s) (fun x s1 => W (eSp C es s1) (fun xs s2 => Q (x :: xs) s2) X) X := by
  unfold eSp eD; simp only [dens, spM, star_den h, Bool.false_eq_true, if_false, W_bind, W_pure]
theorem eSp_star {Q : List D → Env → Prop} : W (eSp C (.star a p :: es) s) Q X = W (eA C a s) (fun x s1 => aK x s1 fun d => OK (itemsD d) fun xs => W (eSp C es s1) (fun ys s2 => Q (xs ++ ys) s2) X) X := by
  unfold eSp eA; simp only [dens, den, spM, if_true, W_bind]
  congr 1; funext x s1
  unfold aK
  cases x.get s1 with
  | none => rfl
  | some d =>
    show W (M.bind _ _ _) _ _ = _
    simp only [W_bind, W_opt, W_pure]
    rfl
theorem var_den {e : E} (h : isV e = false) (hs : isStar e = false) : (den C e).var = none := by
  cases e <;> first | rfl | (cases h; done) | (cases hs; done) | skip
  all_goals (simp only [den]; split <;> rfl)
theorem eCs_nil {fs : List Bool} {Q : List A → Env → Prop} : W (eCs C [] fs s) Q X = Q [] s := rfl
theorem eCs_cons {f : Bool} {fs : List Bool} {Q : List A → Env → Prop} : W (eCs C (a :: es) (f :: fs) s) Q X = W (eArg C a f s) (fun x s1 => W (eCs C es fs s1) (fun xs s2 => Q (x :: xs) s2) X) X := by
  unfold eCs eArg; simp only [dens, csM, W_bind, W_pure, List.headD, List.tail]
theorem eCs_nof {Q : List A → Env → Prop} : W (eCs C (a :: es) [] s) Q X = W (eArg C a false s) (fun x s1 => W (eCs C es [] s1) (fun xs s2 => Q (x :: xs) s2) X) X := by
  unfold eCs eArg; simp only [dens, csM, W_bind, W_pure, List.headD, List.tail]
theorem eArg_lent {Q : A → Env → Prop} : W (eArg C (.var i x p) true s) Q X = pK (getO s i) i s Q := by
  unfold eArg; simp only [den, argM]; exact varA_W
/-- a variable that is not lent: the handled exception stays where it is, all else is frozen -/
def qK (o : Option O) (i : Nat) (s : Env) (K : A → Env → Prop) : Prop := match o with
  | some (.exc _ _) => K (.plc i) s
  | o => vK o i s fun d s1 => K (.val d) s1
theorem qK_frz (d : D) (i : Nat) (s : Env) (K : A → Env → Prop) : qK (some (.frz d)) i s K = K (.val d) s := rfl
theorem qK_lst (d : List D) (i : Nat) (s : Env) (K : A → Env → Prop) : qK (some (.lst d)) i s K = K (.val (.lst d)) (s.set i (some (.frz (.lst d)))) := rfl
theorem qK_dct (d : List (D × D)) (i : Nat) (s : Env) (K : A → Env → Prop) : qK (some (.dct d)) i s K = K (.val (.dct d)) (s.set i (some (.frz (.dct d)))) := rfl
theorem qK_exc (c : Str) (d : Option (Str × Int)) (i : Nat) (s : Env) (K : A → Env → Prop) : qK (some (.exc c d)) i s K = K (.plc i) s := rfl
theorem eArg_var {Q : A → Env → Prop} : W (eArg C (.var i x p) false s) Q X = qK (getO s i) i s Q := by
  unfold eArg argM
  simp only [den]
  unfold qK
  cases h : getO s i with
  | none => simp only [W_bind, dOf_W, Den.d, W_const, freeze_W, h, vK]
  | some o => cases o <;> first | rfl | (simp only [W_bind, dOf_W, Den.d, W_const, freeze_W, h, frzO_frz, OK_some, W_pure]; done)
theorem eArg_oth {f : Bool} (h : isV a = false) (hs : isStar a = false) {Q : A → Env → Prop} : W (eArg C a f s) Q X = W (eD C a s) (fun d s1 => Q (.val d) s1) X := by
  unfold eArg argM eD
  rw [var_den h hs]
  cases f <;> simp only [W_bind, W_pure]
theorem gets_W {as : List A} {K : List D → Prop} : OK (gets s as) K = match as with
    | [] => K []
    | a :: r => aK a s fun d => OK (gets s r) fun ds => K (d :: ds) := by
  cases as with
  | nil => rfl
  | cons a r =>
    show OK (List.mapM (A.get s) (a :: r)) K = _
    rw [List.mapM_cons]
    show OK ((a.get s).bind fun d => (gets s r).bind fun ds => some (d :: ds)) K = aK a s fun d => OK (gets s r) fun ds => K (d :: ds)
    simp only [OK_bind, OK_some]
    rfl
theorem gets_nil {K : List D → Prop} : OK (gets s []) K = K [] := rfl
theorem gets_cons {a : A} {r : List A} {K : List D → Prop} : OK (gets s (a :: r)) K = aK a s fun d => OK (gets s r) fun ds => K (d :: ds) := gets_W
end
end Z.Y0
end

section
set_option Elab.async false
set_option linter.all false
set_option maxRecDepth 100000
set_option maxHeartbeats 1000000
/-! ZWr: the rules for calls, built-ins, methods, displays, statements. -/
namespace Z.Y0
open PySem
section
variable {C : Cxt} {s : Env} {X : Ex → Env → Prop} {i : Nat} {x m : Str} {p q r : Pos} {a b c d e : E} {es : List E}
/-! calls -/
def lendK (as : List A) (os : List O) (fs : List Bool) (s : Env) (K : Env → Prop) : Prop := OK (lendBack as os fs s) K
theorem doCall_W {as : List A} {Q : O → Env → Prop} : W (doCall C x as s) Q X = (decide (plcs as).Nodup = true ∧ OK (as.mapM (A.getO s)) fun os => okLend as os (C.lent x) = true ∧
    FW (C.call x os) (fun r outs => OK (lendBack as outs (C.lent x) s) fun s1 => Q r s1) (fun e outs => OK (lendBack as outs (C.lent x) s) fun s1 => X e s1)) := by
  unfold doCall
  by_cases h : (plcs as).Nodup
  · simp only [h, decide_true, if_true, true_and]
    cases as.mapM (A.getO s) with
    | none => rfl
    | some os =>
      simp only [OK_some]
      cases okLend as os (C.lent x) with
      | false => simp only [Bool.false_eq_true, if_false, false_and]; rfl
      | true =>
        simp only [if_true, true_and]
        cases C.call x os with
        | st => rfl
        | ok r outs =>
          simp only [FW_ok]
          cases lendBack as outs (C.lent x) s <;> rfl
        | ex e outs =>
          simp only [FW_ex]
          cases lendBack as outs (C.lent x) s <;> rfl
  · simp only [h, decide_false, Bool.false_eq_true, if_false, false_and]; rfl
theorem eV_call {Q : O → Env → Prop} : W (eV C (.call x es p q) s) Q X = W (eCs C es (C.lent x) s) (fun as s1 => W (doCall C x as s1) Q X) X := by
  unfold eV eCs; simp only [den, mkV, callM, W_bind]
theorem eV_calle {Q : O → Env → Prop} : W (eV C (.calle a es q) s) Q X = W (eA C a s) (fun x s1 => match x with
    | .val (.fn g) => C.ar g = some es.length ∧ W (eCs C es (C.lent g) s1) (fun as s2 => W (doCall C g as s2) Q X) X
    | _ => False) X := by
  unfold eV eCs eA; simp only [den, mkV, calleM, W_bind]
  congr 1; funext z s1
  have hl : (dens C es).length = es.length := by
    induction es with
    | nil => rfl
    | cons a es ih => simp only [dens, List.length_cons, ih]
  cases z with
  | plc i => rfl
  | val d =>
    cases d <;> first | rfl | skip
    simp only [hl]
    split
    · rename_i h
      simp only [W_bind, h, true_and]
    · rename_i h
      simp only [W_stuck, h, false_and]
theorem getOs_nil {K : List O → Prop} : OK (([] : List A).mapM (A.getO s)) K = K [] := rfl
theorem getOs_cons {a : A} {r : List A} {K : List O → Prop} : OK ((a :: r).mapM (A.getO s)) K = OK (a.getO s) fun d => OK (r.mapM (A.getO s)) fun ds => K (d :: ds) := by
  rw [List.mapM_cons]
  show OK ((a.getO s).bind fun d => (r.mapM (A.getO s)).bind fun ds => some (d :: ds)) K = _
  simp only [OK_bind, OK_some]
theorem getO_val {d : D} : A.getO s (.val d) = some (.frz d) := rfl
theorem getO_plc {i : Nat} : A.getO s (.plc i) = getO s i := rfl
/-! built-ins -/
theorem eV_bi1 (hw : isWalk x = false) (hi : (x == "isinstance") = false) {Q : O → Env → Prop} : W (eV C (.bi x [a] p q) s) Q X = W (eW C a s) (fun y s1 => aK y s1 fun d => OK (biD x [d]) fun o => Q o s1) X := by
  unfold eV eW; simp only [den, hw, mkV, biM, hi, dens, one_W, W_opt, Bool.false_eq_true, if_false]
theorem eV_bi2 (hw : isWalk x = false) (hi : (x == "isinstance") = false) {Q : O → Env → Prop} : W (eV C (.bi x [a, b] p q) s) Q X = W (eAs C [a, b] s) (fun y s1 => OK (gets s1 y) fun ds => OK (biD x ds) fun o => Q o s1) X := by
  unfold eV eAs; simp only [den, hw, mkV, biM, hi, dens, many_W, W_opt, Bool.false_eq_true, if_false]
theorem eV_bi0 (hw : isWalk x = false) (hi : (x == "isinstance") = false) {Q : O → Env → Prop} : W (eV C (.bi x [] p q) s) Q X = OK (biD x []) fun o => Q o s := by
  unfold eV; simp only [den, hw, mkV, biM, hi, dens, many_W, W_opt, Bool.false_eq_true, if_false]; rfl
def isiK (C : Cxt) (y : A) (s : Env) (t : Str) (K : Bool → Prop) : Prop := BK (C.cls t) (match y.getO s with
    | some (.exc c none) => C.cls c = true ∧ K (C.sub c t)
    | _ => False) (OK ((y.getO s).bind frzO) fun d => OK (isiD d t) K)
theorem eV_isi {t : Str} {Q : O → Env → Prop} {r : Pos} : W (eV C (.bi "isinstance" [a, .glb t r] p q) s) Q X = W (eA C a s) (fun y s1 => BK (C.cls t) (match y.getO s1 with
    | some (.exc c none) => C.cls c = true ∧ Q (.frz (.bl (C.sub c t))) s1
    | _ => False) (OK ((y.getO s1).bind frzO) fun d => OK (isiD d t) fun b => Q (.frz (.bl b)) s1)) X := by
  have e1 : isWalk "isinstance" = false := by decide +kernel
  unfold eV eA; simp only [den, e1, mkV, biM, dens, beq_self_eq_true, if_true, isiM, W_bind, Bool.false_eq_true, if_false]
  congr 1; funext y s1
  cases C.cls t with
  | true =>
    simp only [if_true, BK_t]
    cases y.getO s1 with
    | none => rfl
    | some o =>
      cases o <;> first | rfl | skip
      rename_i cc ar
      cases ar with
      | some _ => rfl
      | none =>
        cases h : C.cls cc with
        | true => simp only [h, if_true, W_ok, true_and]
        | false => simp only [h, Bool.false_eq_true, if_false, W_st, false_and]
  | false =>
    simp only [Bool.false_eq_true, if_false, BK_f]
    cases (y.getO s1).bind frzO with
    | none => rfl
    | some d => simp only [W_bind, W_opt, W_const, OK_some]
theorem eI_range {Q : List D → Env → Prop} : W (eI C (.bi "range" es p q) s) Q X = W (eAs C es s) (fun y s1 => OK (gets s1 y) fun ds => OK (rngD ds) fun xs => Q xs s1) X := by
  have e1 : isWalk "range" = true := by decide +kernel
  unfold eI eAs; simp only [den, e1, mkI, walkM, beq_self_eq_true, if_true, many_W, W_opt]
def zipD : List D → Option (List D)
  | [a, b] => (itemsD a).bind fun xs => (itemsD b).map fun ys => (xs.zip ys).map fun p => .tup [p.1, p.2]
  | [a, b, c] => (itemsD a).bind fun xs => (itemsD b).bind fun ys => (itemsD c).map fun zs => (xs.zip (ys.zip zs)).map fun p => .tup [p.1, p.2.1, p.2.2]
  | _ => none
theorem eI_zip {Q : List D → Env → Prop} : W (eI C (.bi "zip" es p q) s) Q X = W (eDs C es s) (fun ds s1 => OK (zipD ds) fun xs => Q xs s1) X := by
  have e1 : isWalk "zip" = true := by decide +kernel
  have e2 : (("zip" : Str) == "range") = false := by decide +kernel
  unfold eI eDs; simp only [den, e1, e2, mkI, walkM, beq_self_eq_true, if_true, Bool.false_eq_true, if_false, W_bind, W_opt]
  congr 1
def enuD : List D → Option (List D)
  | [a] => (itemsD a).map fun xs => (xs.zipIdx).map fun p => .tup [.int p.2, p.1]
  | _ => none
theorem eI_enum {Q : List D → Env → Prop} : W (eI C (.bi "enumerate" es p q) s) Q X = W (eDs C es s) (fun ds s1 => OK (enuD ds) fun xs => Q xs s1) X := by
  have e1 : isWalk "enumerate" = true := by decide +kernel
  have e2 : (("enumerate" : Str) == "range") = false := by decide +kernel
  have e3 : (("enumerate" : Str) == "zip") = false := by decide +kernel
  unfold eI eDs; simp only [den, e1, e2, e3, mkI, walkM, beq_self_eq_true, if_true, Bool.false_eq_true, if_false, W_bind, W_opt]
  congr 1
def rvsD : List D → Option (List D)
  | [a] => (itemsD a).map List.reverse
  | _ => none
theorem eI_rev {Q : List D → Env → Prop} : W (eI C (.bi "reversed" es p q) s) Q X = W (eDs C es s) (fun ds s1 => OK (rvsD ds) fun xs => Q xs s1) X := by
  have e1 : isWalk "reversed" = true := by decide +kernel
  have e2 : (("reversed" : Str) == "range") = false := by decide +kernel
  have e3 : (("reversed" : Str) == "zip") = false := by decide +kernel
  have e4 : (("reversed" : Str) == "enumerate") = false := by decide +kernel
  unfold eI eDs; simp only [den, e1, e2, e3, e4, mkI, walkM, beq_self_eq_true, if_true, Bool.false_eq_true, if_false, W_bind, W_opt]
  congr 1
/-! methods -/
theorem eV_plain (hs : (m == "items" || m == "values") = false) (hm : isMut m = false) (hp : isPl m = true) {Q : O → Env → Prop} : W (eV C (.meth a m es p q) s) Q X = W (eA C a s) (fun x s1 => aK x s1 fun u0 => kindM m u0 = true ∧
    W (eAs C es s1) (fun as s2 => aK x s2 fun u => OK (gets s2 as) fun ds => OK (methD m u ds) fun o => Q o s2) X) X := by
  unfold eV eA eAs; simp only [den, hs, mkV, methM, hm, hp, plainMeth, W_bind, one_W, W_pure, Bool.false_eq_true, if_false, if_true]
  congr 1; funext x s1; congr 1; funext u0
  cases kindM m u0 with
  | false => simp only [Bool.false_eq_true, if_false, W_stuck, false_and]
  | true =>
    simp only [if_true, true_and, W_bind]
    congr 1; funext as s2
    unfold aK
    cases x.get s2 with
    | none => rfl
    | some u =>
      simp only [OK_some]
      cases gets s2 as with
      | none => rfl
      | some ds => simp only [W_opt, OK_some]
def mK (o : Option O) (K : List D → Prop) : Prop := match o with
  | some (.lst xs) => K xs
  | _ => False
theorem mK_lst (xs : List D) (K : List D → Prop) : mK (some (.lst xs)) K = K xs := rfl
theorem eV_mut (hs : (m == "items" || m == "values") = false) (hm : isMut m = true) {Q : O → Env → Prop} : W (eV C (.meth (.var i x r) m es p q) s) Q X = mK (getO s i) fun _ =>
    W (eDs C es s) (fun ds s1 => OK (getO s1 i) fun u => OK (mutD m u ds) fun y => Q (.frz y.2) (s1.set i (some y.1))) X := by
  unfold eV eDs; simp only [den, hs, mkV, methM, hm, mutM, if_true, Bool.false_eq_true, if_false]
  cases h : getO s i with
  | none => rfl
  | some o =>
    cases o <;> first | rfl | skip
    simp only [mK, W_bind]
    congr 1; funext ds s1
    cases getO s1 i with
    | none => rfl
    | some u =>
      simp only [OK_some]
      cases mutD m u ds <;> rfl
/-! places, slices, displays -/
theorem eV_sub {Q : O → Env → Prop} : W (eV C (.sub a b p) s) Q X = W (eA C a s) (fun x s1 => W (eA C b s1) (fun y s2 => aK x s2 fun u => aK y s2 fun v => OK (subD u v) fun d => Q (.frz d) s2) X) X := by
  unfold eV eA; simp only [den, mkG, two_W, W_bind, W_opt, W_const]
def oK (C : Cxt) (o : Option E) (s : Env) (K : Option Int → Env → Prop) (X : Ex → Env → Prop) : Prop := match o with
  | none => K none s
  | some e => W (eA C e s) (fun x s1 => aK x s1 fun d => match d with | .int i => K (some i) s1 | _ => False) X
theorem oK_none {K : Option Int → Env → Prop} : oK C none s K X = K none s := rfl
def intK (d : D) (K : Int → Prop) : Prop := match d with
  | .int i => K i
  | _ => False
theorem intK_int (i : Int) (K : Int → Prop) : intK (.int i) K = K i := rfl
theorem oK_some {K : Option Int → Env → Prop} : oK C (some e) s K X = W (eA C e s) (fun x s1 => aK x s1 fun d => intK d fun i => K (some i) s1) X := by
  unfold oK
  simp only []
  congr 1
theorem oM_W {o : Option E} {Q : Option Int → Env → Prop} : W (oM (denO C o) s) Q X = oK C o s Q X := by
  cases o with
  | none => rfl
  | some e =>
    unfold oK eA; simp only [denO, oM, W_bind]
    congr 1; funext x s1
    unfold aK
    cases x.get s1 with
    | none => rfl
    | some d => cases d <;> rfl
theorem eV_slc {lo hi : Option E} {Q : O → Env → Prop} : W (eV C (.slc a lo hi none p q) s) Q X = W (eA C a s) (fun x s1 => oK C lo s1 (fun l s2 => oK C hi s2 (fun h s3 => aK x s3 fun u => OK (slcD u l h) fun o => Q o s3) X) X) X := by
  unfold eV eA; simp only [den, mkV, slcM, W_bind, oM_W]
  congr 1; funext x s1; congr 1; funext l s2; congr 1; funext h s3
  unfold aK
  cases x.get s3 with
  | none => rfl
  | some d => exact W_opt
theorem eV_rev {p1 p2 : Pos} {k : Nat} {Q : O → Env → Prop} : W (eV C (.slc a none none (some (.neg (.int 1 k p1) p2)) p q) s) Q X = W (eA C a s) (fun x s1 => aK x s1 fun u => OK (revD u) fun o => Q o s1) X := by
  have e : isM1 (some (.neg (.int 1 k p1) p2)) = true := rfl
  unfold eV eA; simp only [den, mkV, e, Bool.true_and, Option.isNone, if_true, one_W, W_opt]
theorem eV_lst {Q : O → Env → Prop} : W (eV C (.lst es p) s) Q X = W (eSp C es s) (fun ds s1 => Q (.lst ds) s1) X := by
  unfold eV eSp; simp only [den, mkV, W_bind, W_pure]
theorem eV_tup {k : Nat} {Q : O → Env → Prop} : W (eV C (.tup es k p) s) Q X = W (eSp C es s) (fun ds s1 => Q (.frz (.tup ds)) s1) X := by
  unfold eV eSp; simp only [den, W_bind, W_const]
/-! targets -/
theorem eG_var {o : O} {Q : Unit → Env → Prop} : W (eG C (.var i x p) o s) Q X = (i < s.length ∧ Q () (s.set i (some o))) := by
  unfold eG; simp only [den, varG]
  split
  · rename_i h; simp only [h, true_and]; rfl
  · rename_i h; simp only [h, false_and]; rfl
def eGs (C : Cxt) : List E → List D → Env → R Unit := fun ts ds s => asgns (dens C ts) ds s
theorem eGs_nil {Q : Unit → Env → Prop} : W (eGs C [] [] s) Q X = Q () s := rfl
theorem eGs_cons {d : D} {ds : List D} {Q : Unit → Env → Prop} : W (eGs C (a :: es) (d :: ds) s) Q X = W (eG C a (.frz d) s) (fun _ s1 => W (eGs C es ds s1) Q X) X := by
  unfold eGs eG; simp only [dens, asgns, W_bind]
def tK (o : O) (n : Nat) (K : List D → Prop) : Prop := match o with
  | .frz (.tup xs) => n = xs.length ∧ K xs
  | _ => False
theorem tK_tup (xs : List D) (n : Nat) (K : List D → Prop) : tK (.frz (.tup xs)) n K = (n = xs.length ∧ K xs) := rfl
theorem dens_len : ∀ es : List E, (dens C es).length = es.length
  | [] => rfl
  | _ :: r => congrArg (· + 1) (dens_len r)
theorem eG_tup {k : Nat} {o : O} {Q : Unit → Env → Prop} : W (eG C (.tup es k p) o s) Q X = tK o es.length fun ds => W (eGs C es ds s) Q X := by
  unfold eG eGs; simp only [den, tupG]
  cases o <;> first | rfl | skip
  rename_i d
  cases d <;> first | rfl | skip
  simp only [dens_len, tK]
  split
  · rename_i h; simp only [h, true_and]
  · rename_i h; simp only [h, false_and, W_stuck]
theorem eG_sub {o : O} {Q : Unit → Env → Prop} {r : Pos} : W (eG C (.sub (.var i x r) b p) o s) Q X = OK (frzO o) fun d => W (eA C b s) (fun y s1 => aK y s1 fun k => OK (getO s1 i) fun u => OK (setIn u k d) fun u' => Q () (s1.set i (some u'))) X := by
  unfold eG eA; simp only [den, mkG, subG]
  cases frzO o with
  | none => rfl
  | some d =>
    simp only [OK_some, W_bind]
    congr 1; funext y s1
    unfold aK
    cases y.get s1 with
    | none => rfl
    | some k =>
      simp only [OK_some]
      cases getO s1 i with
      | none => rfl
      | some u =>
        simp only [OK_some]
        cases setIn u k d <;> rfl
/-! statements -/
variable {t : S} {ss ta tb : List S}
theorem xSs_nil {Q : SR → Env → Prop} : W (xSs C [] s) Q X = Q .nx s := rfl
theorem xSs_cons {Q : SR → Env → Prop} : W (xSs C (t :: ss) s) Q X = W (xS C t s) (fun r s1 => KS r s1 (fun s2 => W (xSs C ss s2) Q X) Q) X := by
  unfold xSs xS; simp only [exSs, seqM, W_bind]
  congr 1; funext r s1
  cases r <;> rfl
theorem xS_asg (h : isTup2 a e = false) {Q : SR → Env → Prop} : W (xS C (.asg a e p) s) Q X = W (eV C e s) (fun o s1 => W (eG C a o s1) (fun _ s2 => Q .nx s2) X) X := by
  unfold xS eV eG; simp only [exS, h, asgM, Bool.false_eq_true, if_false, W_bind, W_pure]
def eVs (C : Cxt) (es : List E) (s : Env) : R (List O) := valsM (dens C es) s
theorem eVs_nil {Q : List O → Env → Prop} : W (eVs C [] s) Q X = Q [] s := rfl
theorem eVs_cons (h : isStar a = false) {Q : List O → Env → Prop} : W (eVs C (a :: es) s) Q X = W (eV C a s) (fun x s1 => W (eVs C es s1) (fun xs s2 => Q (x :: xs) s2) X) X := by
  unfold eVs eV; simp only [dens, valsM, star_den h, W_bind, W_pure, Bool.false_eq_true, if_false]
def eGo (C : Cxt) : List E → List O → Env → R Unit := fun ts ds s => asgnO (dens C ts) ds s
theorem eGo_nil {Q : Unit → Env → Prop} : W (eGo C [] [] s) Q X = Q () s := rfl
theorem eGo_cons {d : O} {ds : List O} {Q : Unit → Env → Prop} : W (eGo C (a :: es) (d :: ds) s) Q X = W (eG C a d s) (fun _ s1 => W (eGo C es ds s1) Q X) X := by
  unfold eGo eG; simp only [dens, asgnO, W_bind]
theorem xS_asg2 {ts : List E} {k k2 : Nat} {p1 p2 : Pos} (h : (ts.length == es.length) = true) {Q : SR → Env → Prop} : W (xS C (.asg (.tup ts k p1) (.tup es k2 p2) p) s) Q X = W (eVs C es s) (fun os s1 => W (eGo C ts os s1) (fun _ s2 => Q .nx s2) X) X := by
  have h2 : isTup2 (E.tup ts k p1) (E.tup es k2 p2) = true := h
  unfold xS eVs eGo; simp only [exS, h2, asgM, den, if_true, W_bind, W_pure]
theorem xS_retv {Q : SR → Env → Prop} : W (xS C (.ret (.var i x p) q) s) Q X = OK (getO s i) fun o => Q (.rt o) (s.set i none) := by
  unfold xS; simp only [exS, retM, den]
  cases getO s i <;> rfl
theorem xS_ret (h : isV e = false) (hs : isStar e = false) {Q : SR → Env → Prop} : W (xS C (.ret e p) s) Q X = W (eV C e s) (fun o s1 => Q (.rt o) s1) X := by
  unfold xS eV; simp only [exS, retM, var_den h hs, W_bind, W_pure]
theorem xS_retn {Q : SR → Env → Prop} : W (xS C (.retn p) s) Q X = Q (.rt (.frz .non)) s := rfl
theorem xS_ifs {Q : SR → Env → Prop} : W (xS C (.ifs e ta tb p) s) Q X = W (eT C e s) (fun t s1 => BK t (W (xSs C ta s1) Q X) (W (xSs C tb s1) Q X)) X := by
  unfold xS eT xSs; simp only [exS, W_bind, W_iteM]
theorem xS_for {Q : SR → Env → Prop} : W (xS C (.fors a e ta p) s) Q X = W (eI C e s) (fun xs s1 => W (forR C a ta xs s1) Q X) X := by
  unfold xS eI forR; simp only [exS, W_bind]
theorem forR_nil {Q : SR → Env → Prop} : W (forR C a ta [] s) Q X = Q .nx s := rfl
theorem forR_cons {d : D} {ds : List D} {Q : SR → Env → Prop} : W (forR C a ta (d :: ds) s) Q X = W (eG C a (.frz d) s) (fun _ s1 => W (xSs C ta s1) (fun r s2 => KL r s2 (fun s3 => W (forR C a ta ds s3) Q X) Q) X) X := by
  unfold forR eG xSs; simp only [forM, W_bind]
  congr 1; funext _ s1; congr 1; funext r s2
  cases r <;> rfl
theorem xS_brk {Q : SR → Env → Prop} : W (xS C (.brk p) s) Q X = Q .bk s := rfl
theorem xS_cnt {Q : SR → Env → Prop} : W (xS C (.cnt p) s) Q X = Q .ct s := rfl
theorem xS_pas {Q : SR → Env → Prop} : W (xS C (.pas p) s) Q X = Q .nx s := rfl
theorem xS_expr {Q : SR → Env → Prop} : W (xS C (.expr e p) s) Q X = W (eV C e s) (fun _ s1 => Q .nx s1) X := by
  unfold xS eV; simp only [exS, W_bind, W_pure]
/-- what is raised -/
def raiK (C : Cxt) (x : Str) (ds : List D) (K : Ex → Prop) : Prop := match ds, C.fld x with
  | [.str _], none => K ⟨x, none⟩
  | [.int n], some f => K ⟨x, some (f, n)⟩
  | _, _ => False
theorem xS_rais {Q : SR → Env → Prop} : W (xS C (.rais x es p q r) s) Q X = W (eDs C es s) (fun ds s1 => raiK C x ds fun e => X e s1) X := by
  unfold xS eDs; simp only [exS, raisM, W_bind]
  congr 1; funext ds s1
  unfold raiK
  rcases ds with _ | ⟨d, _ | ⟨d2, r⟩⟩ <;> cases C.fld x <;> first | rfl | (cases d <;> rfl)
theorem raiK_str {z : Str} {K : Ex → Prop} (h : C.fld x = none) : raiK C x [.str z] K = K ⟨x, none⟩ := by unfold raiK; rw [h]
theorem raiK_int {z : Int} {f : Str} {K : Ex → Prop} (h : C.fld x = some f) : raiK C x [.int z] K = K ⟨x, some (f, z)⟩ := by unfold raiK; rw [h]
theorem xS_try {n : Option (Nat × Str)} {Q : SR → Env → Prop} : W (xS C (.tryx ta x p n tb q r) s) Q X = W (xSs C ta s) Q (fun e s1 => C.cls e.c = true ∧
    BK (C.sub e.c x) (noExc s1 = true ∧ (match n with
      | none => W (xSs C tb s1) (fun r s2 => (noExc s2 && noExcR r) = true ∧ Q r s2) (fun _ _ => False)
      | some i => i.1 < s1.length ∧ W (xSs C tb (s1.set i.1 (some (.exc e.c e.arg)))) (fun r s2 => (noExc (s2.set i.1 none) && noExcR r) = true ∧ Q r (s2.set i.1 none)) (fun _ _ => False))) (X e s1)) := by
  unfold xS xSs; simp only [exS, tryM]
  cases exSs C ta s with
  | ok r s1 => rfl
  | st => rfl
  | ex e s1 =>
    simp only [W_ex]
    cases C.cls e.c with
    | false => simp [W_st]
    | true =>
      simp only [if_true, true_and]
      cases C.sub e.c x with
      | false => simp [BK, W_ex]
      | true =>
        simp only [if_true, BK_t]
        cases noExc s1 with
        | false => simp [W_st]
        | true =>
          simp only [if_true, true_and]
          cases n with
          | none =>
            simp only [Option.map]
            cases exSs C tb s1 with
            | ok r s2 =>
              show W (if (noExc s2 && noExcR r) = true then R.ok r s2 else R.st) Q X = _
              by_cases h : (noExc s2 && noExcR r) = true
              · rw [if_pos h]; simp only [h, W_ok, true_and]
              · rw [if_neg h]; simp only [h, W_st, W_ok, false_and, Bool.false_eq_true]
            | ex _ _ => rfl
            | st => rfl
          | some i =>
            simp only [Option.map]
            by_cases h : i.1 < s1.length
            · simp only [h, if_true, true_and]
              cases exSs C tb (s1.set i.1 (some (.exc e.c e.arg))) with
              | ok r s2 =>
                show W (if (noExc (s2.set i.1 none) && noExcR r) = true then R.ok r (s2.set i.1 none) else R.st) Q X = _
                by_cases h : (noExc (s2.set i.1 none) && noExcR r) = true
                · rw [if_pos h]; simp only [h, W_ok, true_and]
                · rw [if_neg h]; simp only [h, W_st, W_ok, false_and, Bool.false_eq_true]
              | ex _ _ => rfl
              | st => rfl
            · simp [h, W_st]
/-! comprehensions -/
theorem eIfs_nil {Q : Bool → Env → Prop} : W (eIfs C [] s) Q X = Q true s := rfl
theorem eIfs_cons {Q : Bool → Env → Prop} : W (eIfs C (a :: es) s) Q X = W (eT C a s) (fun t s1 => BK t (W (eIfs C es s1) Q X) (Q false s1)) X := by
  unfold eIfs eT; simp only [dens, ifsM, W_bind, W_iteM, W_pure]
variable {own : List Nat} {tg it : E} {sc : Scope}
theorem blkM_W {α : Type} {m : M α} {Q : α → Env → Prop} : W (blkM own m s) Q X = W (m s) (fun a s1 => Q a (backE own s s1)) (fun _ _ => False) := by
  unfold blkM
  cases m s <;> rfl
theorem eV_lc {Q : O → Env → Prop} : W (eV C (.lc e tg it es own sc p) s) Q X = W (eI C it s) (fun xs s1 => xs.length ≤ LIM ∧ W (lcR C own e tg es xs [] s1) (fun o s2 => Q o (backE own s1 s2)) (fun _ _ => False)) X := by
  unfold eV eI lcR; simp only [den, mkV, W_bind, few]
  congr 1; funext xs s1
  by_cases h : xs.length ≤ LIM
  · simp only [h, decide_true, if_true, true_and, blkM_W]
  · simp only [h, decide_false, Bool.false_eq_true, if_false, false_and, W_stuck]
theorem lcR_nil {acc : List D} {Q : O → Env → Prop} : W (lcR C own e tg es [] acc s) Q X = Q (.lst acc) (wipeE own s) := rfl
theorem lcR_cons {d : D} {ds acc : List D} {Q : O → Env → Prop} : W (lcR C own e tg es (d :: ds) acc s) Q X = W (eG C tg (.frz d) (wipeE own s)) (fun _ s1 => W (eIfs C es s1) (fun t s2 =>
    BK t (W (eD C e s2) (fun y s3 => W (lcR C own e tg es ds (acc ++ [y]) s3) Q X) X) (W (lcR C own e tg es ds acc s2) Q X)) X) X := by
  unfold lcR eG eIfs eD; simp only [lcM, wipeM, W_bind, W_iteM]
  rfl
end
/-- a def's run -/
theorem runFn_W {C : Cxt} {f : Fn} {args : List O} {Q : O → List O → Prop} {X : Ex → List O → Prop} (hl : args.length = f.np)
    (h : W (xSs C f.body (args.map some ++ List.replicate (f.ns.length - f.np) none))
      (fun r s => OK (Z.outs s args f.lent 0) fun os => match r with | .rt o => Q o os | .nx => Q (.frz .non) os | _ => False)
      (fun e s => OK (Z.outs s args f.lent 0) fun os => X e os)) : FW (runFn C f args) Q X := by
  unfold runFn
  rw [if_pos hl]
  unfold xSs at h
  cases e : exSs C f.body (args.map some ++ List.replicate (f.ns.length - f.np) none) with
  | st => rw [e] at h; exact h
  | ok r s =>
    rw [e] at h
    simp only [W_ok] at h
    simp only []
    cases e2 : Z.outs s args f.lent 0 with
    | none => rw [e2] at h; exact h
    | some os =>
      rw [e2] at h
      simp only [OK_some] at h
      cases r <;> exact h
  | ex r s =>
    rw [e] at h
    simp only [W_ex] at h
    simp only []
    cases e2 : Z.outs s args f.lent 0 with
    | none => rw [e2] at h; exact h
    | some os =>
      rw [e2] at h
      exact h
end Z.Y0
end

section
set_option Elab.async false
set_option linter.all false
set_option maxRecDepth 100000
set_option maxHeartbeats 1000000
/-! ZV: the rules once more, over words that nothing unfolds. -/
namespace Z.Y
open PySem
open Z.Y0 (eV eA eT eI eW eD eG eAs eDs eSp eTs eAnd eOr eCs eArg eIfs xSs xS lcR forR eGs eVs eGo isMk isTs isV isStar negD zipD enuD rvsD dens_len var_den star_den)
theorem seal_ex {α : Sort u} (a : α) : ∃ b : α, b = a := ⟨a, rfl⟩
variable {α β : Type}
/-- so that simp looks at no continuation -/
@[reducible] def Dep {τ : Type} (t : τ) : Type := Unit
noncomputable def W {α : Type} (a0 : R α) (a1 : (α → Env → Prop)) (a2 : (Ex → Env → Prop)) (u : Dep (a1, a2) := ()) : Prop := Classical.choose (seal_ex (@Y0.W α)) a0 a1 a2
theorem W_sl {α : Type} (a0 : R α) (a1 : (α → Env → Prop)) (a2 : (Ex → Env → Prop)) : W a0 a1 a2 = Y0.W a0 a1 a2 := by
  have h : Classical.choose (seal_ex (@Y0.W α)) = @Y0.W α := Classical.choose_spec (seal_ex (@Y0.W α))
  unfold W; rw [h]
noncomputable def FW  (a0 : FR) (a1 : (O → List O → Prop)) (a2 : (Ex → List O → Prop)) (u : Dep (a1, a2) := ()) : Prop := Classical.choose (seal_ex (@Y0.FW)) a0 a1 a2
theorem FW_sl  (a0 : FR) (a1 : (O → List O → Prop)) (a2 : (Ex → List O → Prop)) : FW a0 a1 a2 = Y0.FW a0 a1 a2 := by
  have h : Classical.choose (seal_ex (@Y0.FW)) = @Y0.FW := Classical.choose_spec (seal_ex (@Y0.FW))
  unfold FW; rw [h]
noncomputable def OK {α : Type} (a0 : Option α) (a1 : (α → Prop)) (u : Dep (a1) := ()) : Prop := Classical.choose (seal_ex (@Y0.OK α)) a0 a1
theorem OK_sl {α : Type} (a0 : Option α) (a1 : (α → Prop)) : OK a0 a1 = Y0.OK a0 a1 := by
  have h : Classical.choose (seal_ex (@Y0.OK α)) = @Y0.OK α := Classical.choose_spec (seal_ex (@Y0.OK α))
  unfold OK; rw [h]
noncomputable def BK  (a0 : Bool) (a1 : Prop) (a2 : Prop) (u : Dep (a1, a2) := ()) : Prop := Classical.choose (seal_ex (@Y0.BK)) a0 a1 a2
theorem BK_sl  (a0 : Bool) (a1 : Prop) (a2 : Prop) : BK a0 a1 a2 = Y0.BK a0 a1 a2 := by
  have h : Classical.choose (seal_ex (@Y0.BK)) = @Y0.BK := Classical.choose_spec (seal_ex (@Y0.BK))
  unfold BK; rw [h]
noncomputable def gK  (a0 : Option O) (a1 : (D → Prop)) (u : Dep (a1) := ()) : Prop := Classical.choose (seal_ex (@Y0.gK)) a0 a1
theorem gK_sl  (a0 : Option O) (a1 : (D → Prop)) : gK a0 a1 = Y0.gK a0 a1 := by
  have h : Classical.choose (seal_ex (@Y0.gK)) = @Y0.gK := Classical.choose_spec (seal_ex (@Y0.gK))
  unfold gK; rw [h]
noncomputable def aK  (a0 : A) (a1 : Env) (a2 : (D → Prop)) (u : Dep (a2) := ()) : Prop := Classical.choose (seal_ex (@Y0.aK)) a0 a1 a2
theorem aK_sl  (a0 : A) (a1 : Env) (a2 : (D → Prop)) : aK a0 a1 a2 = Y0.aK a0 a1 a2 := by
  have h : Classical.choose (seal_ex (@Y0.aK)) = @Y0.aK := Classical.choose_spec (seal_ex (@Y0.aK))
  unfold aK; rw [h]
noncomputable def vK  (a0 : Option O) (a1 : Nat) (a2 : Env) (a3 : (D → Env → Prop)) (u : Dep (a3) := ()) : Prop := Classical.choose (seal_ex (@Y0.vK)) a0 a1 a2 a3
theorem vK_sl  (a0 : Option O) (a1 : Nat) (a2 : Env) (a3 : (D → Env → Prop)) : vK a0 a1 a2 a3 = Y0.vK a0 a1 a2 a3 := by
  have h : Classical.choose (seal_ex (@Y0.vK)) = @Y0.vK := Classical.choose_spec (seal_ex (@Y0.vK))
  unfold vK; rw [h]
noncomputable def pK  (a0 : Option O) (a1 : Nat) (a2 : Env) (a3 : (A → Env → Prop)) (u : Dep (a3) := ()) : Prop := Classical.choose (seal_ex (@Y0.pK)) a0 a1 a2 a3
theorem pK_sl  (a0 : Option O) (a1 : Nat) (a2 : Env) (a3 : (A → Env → Prop)) : pK a0 a1 a2 a3 = Y0.pK a0 a1 a2 a3 := by
  have h : Classical.choose (seal_ex (@Y0.pK)) = @Y0.pK := Classical.choose_spec (seal_ex (@Y0.pK))
  unfold pK; rw [h]
noncomputable def qK  (a0 : Option O) (a1 : Nat) (a2 : Env) (a3 : (A → Env → Prop)) (u : Dep (a3) := ()) : Prop := Classical.choose (seal_ex (@Y0.qK)) a0 a1 a2 a3
theorem qK_sl  (a0 : Option O) (a1 : Nat) (a2 : Env) (a3 : (A → Env → Prop)) : qK a0 a1 a2 a3 = Y0.qK a0 a1 a2 a3 := by
  have h : Classical.choose (seal_ex (@Y0.qK)) = @Y0.qK := Classical.choose_spec (seal_ex (@Y0.qK))
  unfold qK; rw [h]
noncomputable def mK  (a0 : Option O) (a1 : (List D → Prop)) (u : Dep (a1) := ()) : Prop := Classical.choose (seal_ex (@Y0.mK)) a0 a1
theorem mK_sl  (a0 : Option O) (a1 : (List D → Prop)) : mK a0 a1 = Y0.mK a0 a1 := by
  have h : Classical.choose (seal_ex (@Y0.mK)) = @Y0.mK := Classical.choose_spec (seal_ex (@Y0.mK))
  unfold mK; rw [h]
noncomputable def tK  (a0 : O) (a1 : Nat) (a2 : (List D → Prop)) (u : Dep (a2) := ()) : Prop := Classical.choose (seal_ex (@Y0.tK)) a0 a1 a2
theorem tK_sl  (a0 : O) (a1 : Nat) (a2 : (List D → Prop)) : tK a0 a1 a2 = Y0.tK a0 a1 a2 := by
  have h : Classical.choose (seal_ex (@Y0.tK)) = @Y0.tK := Classical.choose_spec (seal_ex (@Y0.tK))
  unfold tK; rw [h]
noncomputable def KS  (a0 : SR) (a1 : Env) (a2 : (Env → Prop)) (a3 : (SR → Env → Prop)) (u : Dep (a2, a3) := ()) : Prop := Classical.choose (seal_ex (@Y0.KS)) a0 a1 a2 a3
theorem KS_sl  (a0 : SR) (a1 : Env) (a2 : (Env → Prop)) (a3 : (SR → Env → Prop)) : KS a0 a1 a2 a3 = Y0.KS a0 a1 a2 a3 := by
  have h : Classical.choose (seal_ex (@Y0.KS)) = @Y0.KS := Classical.choose_spec (seal_ex (@Y0.KS))
  unfold KS; rw [h]
noncomputable def KL  (a0 : SR) (a1 : Env) (a2 : (Env → Prop)) (a3 : (SR → Env → Prop)) (u : Dep (a2, a3) := ()) : Prop := Classical.choose (seal_ex (@Y0.KL)) a0 a1 a2 a3
theorem KL_sl  (a0 : SR) (a1 : Env) (a2 : (Env → Prop)) (a3 : (SR → Env → Prop)) : KL a0 a1 a2 a3 = Y0.KL a0 a1 a2 a3 := by
  have h : Classical.choose (seal_ex (@Y0.KL)) = @Y0.KL := Classical.choose_spec (seal_ex (@Y0.KL))
  unfold KL; rw [h]
noncomputable def oK  (a0 : Cxt) (a1 : Option E) (a2 : Env) (a3 : (Option Int → Env → Prop)) (a4 : (Ex → Env → Prop)) (u : Dep (a3, a4) := ()) : Prop := Classical.choose (seal_ex (@Y0.oK)) a0 a1 a2 a3 a4
theorem oK_sl  (a0 : Cxt) (a1 : Option E) (a2 : Env) (a3 : (Option Int → Env → Prop)) (a4 : (Ex → Env → Prop)) : oK a0 a1 a2 a3 a4 = Y0.oK a0 a1 a2 a3 a4 := by
  have h : Classical.choose (seal_ex (@Y0.oK)) = @Y0.oK := Classical.choose_spec (seal_ex (@Y0.oK))
  unfold oK; rw [h]
noncomputable def intK  (a0 : D) (a1 : (Int → Prop)) (u : Dep (a1) := ()) : Prop := Classical.choose (seal_ex (@Y0.intK)) a0 a1
theorem intK_sl  (a0 : D) (a1 : (Int → Prop)) : intK a0 a1 = Y0.intK a0 a1 := by
  have h : Classical.choose (seal_ex (@Y0.intK)) = @Y0.intK := Classical.choose_spec (seal_ex (@Y0.intK))
  unfold intK; rw [h]
noncomputable def raiK  (a0 : Cxt) (a1 : Str) (a2 : List D) (a3 : (Ex → Prop)) (u : Dep (a3) := ()) : Prop := Classical.choose (seal_ex (@Y0.raiK)) a0 a1 a2 a3
theorem raiK_sl  (a0 : Cxt) (a1 : Str) (a2 : List D) (a3 : (Ex → Prop)) : raiK a0 a1 a2 a3 = Y0.raiK a0 a1 a2 a3 := by
  have h : Classical.choose (seal_ex (@Y0.raiK)) = @Y0.raiK := Classical.choose_spec (seal_ex (@Y0.raiK))
  unfold raiK; rw [h]
variable {α β : Type}
theorem W_ok (a : α) (s : Env) (Q : α → Env → Prop) (X : Ex → Env → Prop) : W (.ok a s) Q X = Q a s := by
  try simp only [W_sl, FW_sl, OK_sl, BK_sl, gK_sl, aK_sl, vK_sl, pK_sl, qK_sl, mK_sl, tK_sl, KS_sl, KL_sl, oK_sl, intK_sl, raiK_sl]
  first | exact Y0.W_ok | exact Y0.W_ok _ _ | exact Y0.W_ok _ _ _ | exact Y0.W_ok _ _ _ _ | (apply Y0.W_ok <;> assumption)
theorem W_ex (x : Ex) (s : Env) (Q : α → Env → Prop) (X : Ex → Env → Prop) : W (.ex x s) Q X = X x s := by
  try simp only [W_sl, FW_sl, OK_sl, BK_sl, gK_sl, aK_sl, vK_sl, pK_sl, qK_sl, mK_sl, tK_sl, KS_sl, KL_sl, oK_sl, intK_sl, raiK_sl]
  first | exact Y0.W_ex | exact Y0.W_ex _ _ | exact Y0.W_ex _ _ _ | exact Y0.W_ex _ _ _ _ | (apply Y0.W_ex <;> assumption)
theorem W_st (Q : α → Env → Prop) (X : Ex → Env → Prop) : W .st Q X = False := by
  try simp only [W_sl, FW_sl, OK_sl, BK_sl, gK_sl, aK_sl, vK_sl, pK_sl, qK_sl, mK_sl, tK_sl, KS_sl, KL_sl, oK_sl, intK_sl, raiK_sl]
  first | exact Y0.W_st | exact Y0.W_st _ _ | exact Y0.W_st _ _ _ | exact Y0.W_st _ _ _ _ | (apply Y0.W_st <;> assumption)
theorem W_ite {c : Prop} [Decidable c] {a b : R α} {Q : α → Env → Prop} {X : Ex → Env → Prop} : W (if c then a else b) Q X = ((c → W a Q X) ∧ (¬c → W b Q X)) := by
  try simp only [W_sl, FW_sl, OK_sl, BK_sl, gK_sl, aK_sl, vK_sl, pK_sl, qK_sl, mK_sl, tK_sl, KS_sl, KL_sl, oK_sl, intK_sl, raiK_sl]
  first | exact Y0.W_ite | exact Y0.W_ite _ _ | exact Y0.W_ite _ _ _ | exact Y0.W_ite _ _ _ _ | (apply Y0.W_ite <;> assumption)
theorem FW_ok (a : O) (s : List O) (Q : O → List O → Prop) (X : Ex → List O → Prop) : FW (.ok a s) Q X = Q a s := by
  try simp only [W_sl, FW_sl, OK_sl, BK_sl, gK_sl, aK_sl, vK_sl, pK_sl, qK_sl, mK_sl, tK_sl, KS_sl, KL_sl, oK_sl, intK_sl, raiK_sl]
  first | exact Y0.FW_ok | exact Y0.FW_ok _ _ | exact Y0.FW_ok _ _ _ | exact Y0.FW_ok _ _ _ _ | (apply Y0.FW_ok <;> assumption)
theorem FW_ex (x : Ex) (s : List O) (Q : O → List O → Prop) (X : Ex → List O → Prop) : FW (.ex x s) Q X = X x s := by
  try simp only [W_sl, FW_sl, OK_sl, BK_sl, gK_sl, aK_sl, vK_sl, pK_sl, qK_sl, mK_sl, tK_sl, KS_sl, KL_sl, oK_sl, intK_sl, raiK_sl]
  first | exact Y0.FW_ex | exact Y0.FW_ex _ _ | exact Y0.FW_ex _ _ _ | exact Y0.FW_ex _ _ _ _ | (apply Y0.FW_ex <;> assumption)
theorem FW_st (Q : O → List O → Prop) (X : Ex → List O → Prop) : FW .st Q X = False := by
  try simp only [W_sl, FW_sl, OK_sl, BK_sl, gK_sl, aK_sl, vK_sl, pK_sl, qK_sl, mK_sl, tK_sl, KS_sl, KL_sl, oK_sl, intK_sl, raiK_sl]
  first | exact Y0.FW_st | exact Y0.FW_st _ _ | exact Y0.FW_st _ _ _ | exact Y0.FW_st _ _ _ _ | (apply Y0.FW_st <;> assumption)
theorem FW_ite {c : Prop} [Decidable c] {a b : FR} {Q : O → List O → Prop} {X : Ex → List O → Prop} : FW (if c then a else b) Q X = ((c → FW a Q X) ∧ (¬c → FW b Q X)) := by
  try simp only [W_sl, FW_sl, OK_sl, BK_sl, gK_sl, aK_sl, vK_sl, pK_sl, qK_sl, mK_sl, tK_sl, KS_sl, KL_sl, oK_sl, intK_sl, raiK_sl]
  first | exact Y0.FW_ite | exact Y0.FW_ite _ _ | exact Y0.FW_ite _ _ _ | exact Y0.FW_ite _ _ _ _ | (apply Y0.FW_ite <;> assumption)
theorem OK_some (a : α) (K : α → Prop) : OK (some a) K = K a := by
  try simp only [W_sl, FW_sl, OK_sl, BK_sl, gK_sl, aK_sl, vK_sl, pK_sl, qK_sl, mK_sl, tK_sl, KS_sl, KL_sl, oK_sl, intK_sl, raiK_sl]
  first | exact Y0.OK_some | exact Y0.OK_some _ _ | exact Y0.OK_some _ _ _ | exact Y0.OK_some _ _ _ _ | (apply Y0.OK_some <;> assumption)
theorem OK_none (K : α → Prop) : OK none K = False := by
  try simp only [W_sl, FW_sl, OK_sl, BK_sl, gK_sl, aK_sl, vK_sl, pK_sl, qK_sl, mK_sl, tK_sl, KS_sl, KL_sl, oK_sl, intK_sl, raiK_sl]
  first | exact Y0.OK_none | exact Y0.OK_none _ _ | exact Y0.OK_none _ _ _ | exact Y0.OK_none _ _ _ _ | (apply Y0.OK_none <;> assumption)
theorem OK_ite {c : Prop} [Decidable c] {a b : Option α} {K : α → Prop} : OK (if c then a else b) K = ((c → OK a K) ∧ (¬c → OK b K)) := by
  try simp only [W_sl, FW_sl, OK_sl, BK_sl, gK_sl, aK_sl, vK_sl, pK_sl, qK_sl, mK_sl, tK_sl, KS_sl, KL_sl, oK_sl, intK_sl, raiK_sl]
  first | exact Y0.OK_ite | exact Y0.OK_ite _ _ | exact Y0.OK_ite _ _ _ | exact Y0.OK_ite _ _ _ _ | (apply Y0.OK_ite <;> assumption)
theorem OK_itn {c : Prop} [Decidable c] {a : Option α} {K : α → Prop} : OK (if c then a else none) K = (c ∧ OK a K) := by
  try simp only [W_sl, FW_sl, OK_sl, BK_sl, gK_sl, aK_sl, vK_sl, pK_sl, qK_sl, mK_sl, tK_sl, KS_sl, KL_sl, oK_sl, intK_sl, raiK_sl]
  first | exact Y0.OK_itn | exact Y0.OK_itn _ _ | exact Y0.OK_itn _ _ _ | exact Y0.OK_itn _ _ _ _ | (apply Y0.OK_itn <;> assumption)
theorem OK_map {o : Option α} {f : α → β} {K : β → Prop} : OK (o.map f) K = OK o fun a => K (f a) := by
  try simp only [W_sl, FW_sl, OK_sl, BK_sl, gK_sl, aK_sl, vK_sl, pK_sl, qK_sl, mK_sl, tK_sl, KS_sl, KL_sl, oK_sl, intK_sl, raiK_sl]
  first | exact Y0.OK_map | exact Y0.OK_map _ _ | exact Y0.OK_map _ _ _ | exact Y0.OK_map _ _ _ _ | (apply Y0.OK_map <;> assumption)
theorem OK_bind {o : Option α} {f : α → Option β} {K : β → Prop} : OK (o.bind f) K = OK o fun a => OK (f a) K := by
  try simp only [W_sl, FW_sl, OK_sl, BK_sl, gK_sl, aK_sl, vK_sl, pK_sl, qK_sl, mK_sl, tK_sl, KS_sl, KL_sl, oK_sl, intK_sl, raiK_sl]
  first | exact Y0.OK_bind | exact Y0.OK_bind _ _ | exact Y0.OK_bind _ _ _ | exact Y0.OK_bind _ _ _ _ | (apply Y0.OK_bind <;> assumption)
theorem BK_t (P N : Prop) : BK true P N = P := by
  try simp only [W_sl, FW_sl, OK_sl, BK_sl, gK_sl, aK_sl, vK_sl, pK_sl, qK_sl, mK_sl, tK_sl, KS_sl, KL_sl, oK_sl, intK_sl, raiK_sl]
  first | exact Y0.BK_t | exact Y0.BK_t _ _ | exact Y0.BK_t _ _ _ | exact Y0.BK_t _ _ _ _ | (apply Y0.BK_t <;> assumption)
theorem BK_f (P N : Prop) : BK false P N = N := by
  try simp only [W_sl, FW_sl, OK_sl, BK_sl, gK_sl, aK_sl, vK_sl, pK_sl, qK_sl, mK_sl, tK_sl, KS_sl, KL_sl, oK_sl, intK_sl, raiK_sl]
  first | exact Y0.BK_f | exact Y0.BK_f _ _ | exact Y0.BK_f _ _ _ | exact Y0.BK_f _ _ _ _ | (apply Y0.BK_f <;> assumption)
theorem BK_dec {p : Prop} [Decidable p] {P N : Prop} : BK (decide p) P N = ((p → P) ∧ (¬p → N)) := by
  try simp only [W_sl, FW_sl, OK_sl, BK_sl, gK_sl, aK_sl, vK_sl, pK_sl, qK_sl, mK_sl, tK_sl, KS_sl, KL_sl, oK_sl, intK_sl, raiK_sl]
  first | exact Y0.BK_dec | exact Y0.BK_dec _ _ | exact Y0.BK_dec _ _ _ | exact Y0.BK_dec _ _ _ _ | (apply Y0.BK_dec <;> assumption)
theorem BK_not {b : Bool} {P N : Prop} : BK (!b) P N = BK b N P := by
  try simp only [W_sl, FW_sl, OK_sl, BK_sl, gK_sl, aK_sl, vK_sl, pK_sl, qK_sl, mK_sl, tK_sl, KS_sl, KL_sl, oK_sl, intK_sl, raiK_sl]
  first | exact Y0.BK_not | exact Y0.BK_not _ _ | exact Y0.BK_not _ _ _ | exact Y0.BK_not _ _ _ _ | (apply Y0.BK_not <;> assumption)
theorem BK_any {b : Bool} {P N : Prop} : BK b P N = ((b = true → P) ∧ (b = false → N)) := by
  try simp only [W_sl, FW_sl, OK_sl, BK_sl, gK_sl, aK_sl, vK_sl, pK_sl, qK_sl, mK_sl, tK_sl, KS_sl, KL_sl, oK_sl, intK_sl, raiK_sl]
  first | exact Y0.BK_any | exact Y0.BK_any _ _ | exact Y0.BK_any _ _ _ | exact Y0.BK_any _ _ _ _ | (apply Y0.BK_any <;> assumption)
theorem gK_frz (d : D) (K : D → Prop) : gK (some (.frz d)) K = K d := by
  try simp only [W_sl, FW_sl, OK_sl, BK_sl, gK_sl, aK_sl, vK_sl, pK_sl, qK_sl, mK_sl, tK_sl, KS_sl, KL_sl, oK_sl, intK_sl, raiK_sl]
  first | exact Y0.gK_frz | exact Y0.gK_frz _ _ | exact Y0.gK_frz _ _ _ | exact Y0.gK_frz _ _ _ _ | (apply Y0.gK_frz <;> assumption)
theorem gK_lst (d : List D) (K : D → Prop) : gK (some (.lst d)) K = K (.lst d) := by
  try simp only [W_sl, FW_sl, OK_sl, BK_sl, gK_sl, aK_sl, vK_sl, pK_sl, qK_sl, mK_sl, tK_sl, KS_sl, KL_sl, oK_sl, intK_sl, raiK_sl]
  first | exact Y0.gK_lst | exact Y0.gK_lst _ _ | exact Y0.gK_lst _ _ _ | exact Y0.gK_lst _ _ _ _ | (apply Y0.gK_lst <;> assumption)
theorem gK_dct (d : List (D × D)) (K : D → Prop) : gK (some (.dct d)) K = K (.dct d) := by
  try simp only [W_sl, FW_sl, OK_sl, BK_sl, gK_sl, aK_sl, vK_sl, pK_sl, qK_sl, mK_sl, tK_sl, KS_sl, KL_sl, oK_sl, intK_sl, raiK_sl]
  first | exact Y0.gK_dct | exact Y0.gK_dct _ _ | exact Y0.gK_dct _ _ _ | exact Y0.gK_dct _ _ _ _ | (apply Y0.gK_dct <;> assumption)
theorem aK_val (d : D) (s : Env) (K : D → Prop) : aK (.val d) s K = K d := by
  try simp only [W_sl, FW_sl, OK_sl, BK_sl, gK_sl, aK_sl, vK_sl, pK_sl, qK_sl, mK_sl, tK_sl, KS_sl, KL_sl, oK_sl, intK_sl, raiK_sl]
  first | exact Y0.aK_val | exact Y0.aK_val _ _ | exact Y0.aK_val _ _ _ | exact Y0.aK_val _ _ _ _ | (apply Y0.aK_val <;> assumption)
theorem aK_plc (i : Nat) (s : Env) (K : D → Prop) : aK (.plc i) s K = gK (getO s i) K := by
  try simp only [W_sl, FW_sl, OK_sl, BK_sl, gK_sl, aK_sl, vK_sl, pK_sl, qK_sl, mK_sl, tK_sl, KS_sl, KL_sl, oK_sl, intK_sl, raiK_sl]
  first | exact Y0.aK_plc | exact Y0.aK_plc _ _ | exact Y0.aK_plc _ _ _ | exact Y0.aK_plc _ _ _ _ | (apply Y0.aK_plc <;> assumption)
theorem vK_frz (d : D) (i : Nat) (s : Env) (K : D → Env → Prop) : vK (some (.frz d)) i s K = K d s := by
  try simp only [W_sl, FW_sl, OK_sl, BK_sl, gK_sl, aK_sl, vK_sl, pK_sl, qK_sl, mK_sl, tK_sl, KS_sl, KL_sl, oK_sl, intK_sl, raiK_sl]
  first | exact Y0.vK_frz | exact Y0.vK_frz _ _ | exact Y0.vK_frz _ _ _ | exact Y0.vK_frz _ _ _ _ | (apply Y0.vK_frz <;> assumption)
theorem vK_lst (d : List D) (i : Nat) (s : Env) (K : D → Env → Prop) : vK (some (.lst d)) i s K = K (.lst d) (s.set i (some (.frz (.lst d)))) := by
  try simp only [W_sl, FW_sl, OK_sl, BK_sl, gK_sl, aK_sl, vK_sl, pK_sl, qK_sl, mK_sl, tK_sl, KS_sl, KL_sl, oK_sl, intK_sl, raiK_sl]
  first | exact Y0.vK_lst | exact Y0.vK_lst _ _ | exact Y0.vK_lst _ _ _ | exact Y0.vK_lst _ _ _ _ | (apply Y0.vK_lst <;> assumption)
theorem vK_dct (d : List (D × D)) (i : Nat) (s : Env) (K : D → Env → Prop) : vK (some (.dct d)) i s K = K (.dct d) (s.set i (some (.frz (.dct d)))) := by
  try simp only [W_sl, FW_sl, OK_sl, BK_sl, gK_sl, aK_sl, vK_sl, pK_sl, qK_sl, mK_sl, tK_sl, KS_sl, KL_sl, oK_sl, intK_sl, raiK_sl]
  first | exact Y0.vK_dct | exact Y0.vK_dct _ _ | exact Y0.vK_dct _ _ _ | exact Y0.vK_dct _ _ _ _ | (apply Y0.vK_dct <;> assumption)
theorem pK_frz (d : D) (i : Nat) (s : Env) (K : A → Env → Prop) : pK (some (.frz d)) i s K = K (.val d) s := by
  try simp only [W_sl, FW_sl, OK_sl, BK_sl, gK_sl, aK_sl, vK_sl, pK_sl, qK_sl, mK_sl, tK_sl, KS_sl, KL_sl, oK_sl, intK_sl, raiK_sl]
  first | exact Y0.pK_frz | exact Y0.pK_frz _ _ | exact Y0.pK_frz _ _ _ | exact Y0.pK_frz _ _ _ _ | (apply Y0.pK_frz <;> assumption)
theorem pK_lst (d : List D) (i : Nat) (s : Env) (K : A → Env → Prop) : pK (some (.lst d)) i s K = K (.plc i) s := by
  try simp only [W_sl, FW_sl, OK_sl, BK_sl, gK_sl, aK_sl, vK_sl, pK_sl, qK_sl, mK_sl, tK_sl, KS_sl, KL_sl, oK_sl, intK_sl, raiK_sl]
  first | exact Y0.pK_lst | exact Y0.pK_lst _ _ | exact Y0.pK_lst _ _ _ | exact Y0.pK_lst _ _ _ _ | (apply Y0.pK_lst <;> assumption)
theorem pK_dct (d : List (D × D)) (i : Nat) (s : Env) (K : A → Env → Prop) : pK (some (.dct d)) i s K = K (.plc i) s := by
  try simp only [W_sl, FW_sl, OK_sl, BK_sl, gK_sl, aK_sl, vK_sl, pK_sl, qK_sl, mK_sl, tK_sl, KS_sl, KL_sl, oK_sl, intK_sl, raiK_sl]
  first | exact Y0.pK_dct | exact Y0.pK_dct _ _ | exact Y0.pK_dct _ _ _ | exact Y0.pK_dct _ _ _ _ | (apply Y0.pK_dct <;> assumption)
theorem pK_ins (c : Str) (d : List (Str × D)) (i : Nat) (s : Env) (K : A → Env → Prop) : pK (some (.ins c d)) i s K = K (.plc i) s := by
  try simp only [W_sl, FW_sl, OK_sl, BK_sl, gK_sl, aK_sl, vK_sl, pK_sl, qK_sl, mK_sl, tK_sl, KS_sl, KL_sl, oK_sl, intK_sl, raiK_sl]
  first | exact Y0.pK_ins | exact Y0.pK_ins _ _ | exact Y0.pK_ins _ _ _ | exact Y0.pK_ins _ _ _ _ | (apply Y0.pK_ins <;> assumption)
theorem pK_exc (c : Str) (d : Option (Str × Int)) (i : Nat) (s : Env) (K : A → Env → Prop) : pK (some (.exc c d)) i s K = K (.plc i) s := by
  try simp only [W_sl, FW_sl, OK_sl, BK_sl, gK_sl, aK_sl, vK_sl, pK_sl, qK_sl, mK_sl, tK_sl, KS_sl, KL_sl, oK_sl, intK_sl, raiK_sl]
  first | exact Y0.pK_exc | exact Y0.pK_exc _ _ | exact Y0.pK_exc _ _ _ | exact Y0.pK_exc _ _ _ _ | (apply Y0.pK_exc <;> assumption)
theorem KS_nx (s : Env) (N : Env → Prop) (Q : SR → Env → Prop) : KS .nx s N Q = N s := by
  try simp only [W_sl, FW_sl, OK_sl, BK_sl, gK_sl, aK_sl, vK_sl, pK_sl, qK_sl, mK_sl, tK_sl, KS_sl, KL_sl, oK_sl, intK_sl, raiK_sl]
  first | exact Y0.KS_nx | exact Y0.KS_nx _ _ | exact Y0.KS_nx _ _ _ | exact Y0.KS_nx _ _ _ _ | (apply Y0.KS_nx <;> assumption)
theorem KS_rt (o : O) (s : Env) (N : Env → Prop) (Q : SR → Env → Prop) : KS (.rt o) s N Q = Q (.rt o) s := by
  try simp only [W_sl, FW_sl, OK_sl, BK_sl, gK_sl, aK_sl, vK_sl, pK_sl, qK_sl, mK_sl, tK_sl, KS_sl, KL_sl, oK_sl, intK_sl, raiK_sl]
  first | exact Y0.KS_rt | exact Y0.KS_rt _ _ | exact Y0.KS_rt _ _ _ | exact Y0.KS_rt _ _ _ _ | (apply Y0.KS_rt <;> assumption)
theorem KS_bk (s : Env) (N : Env → Prop) (Q : SR → Env → Prop) : KS .bk s N Q = Q .bk s := by
  try simp only [W_sl, FW_sl, OK_sl, BK_sl, gK_sl, aK_sl, vK_sl, pK_sl, qK_sl, mK_sl, tK_sl, KS_sl, KL_sl, oK_sl, intK_sl, raiK_sl]
  first | exact Y0.KS_bk | exact Y0.KS_bk _ _ | exact Y0.KS_bk _ _ _ | exact Y0.KS_bk _ _ _ _ | (apply Y0.KS_bk <;> assumption)
theorem KS_ct (s : Env) (N : Env → Prop) (Q : SR → Env → Prop) : KS .ct s N Q = Q .ct s := by
  try simp only [W_sl, FW_sl, OK_sl, BK_sl, gK_sl, aK_sl, vK_sl, pK_sl, qK_sl, mK_sl, tK_sl, KS_sl, KL_sl, oK_sl, intK_sl, raiK_sl]
  first | exact Y0.KS_ct | exact Y0.KS_ct _ _ | exact Y0.KS_ct _ _ _ | exact Y0.KS_ct _ _ _ _ | (apply Y0.KS_ct <;> assumption)
theorem KL_nx (s : Env) (N : Env → Prop) (Q : SR → Env → Prop) : KL .nx s N Q = N s := by
  try simp only [W_sl, FW_sl, OK_sl, BK_sl, gK_sl, aK_sl, vK_sl, pK_sl, qK_sl, mK_sl, tK_sl, KS_sl, KL_sl, oK_sl, intK_sl, raiK_sl]
  first | exact Y0.KL_nx | exact Y0.KL_nx _ _ | exact Y0.KL_nx _ _ _ | exact Y0.KL_nx _ _ _ _ | (apply Y0.KL_nx <;> assumption)
theorem KL_ct (s : Env) (N : Env → Prop) (Q : SR → Env → Prop) : KL .ct s N Q = N s := by
  try simp only [W_sl, FW_sl, OK_sl, BK_sl, gK_sl, aK_sl, vK_sl, pK_sl, qK_sl, mK_sl, tK_sl, KS_sl, KL_sl, oK_sl, intK_sl, raiK_sl]
  first | exact Y0.KL_ct | exact Y0.KL_ct _ _ | exact Y0.KL_ct _ _ _ | exact Y0.KL_ct _ _ _ _ | (apply Y0.KL_ct <;> assumption)
theorem KL_bk (s : Env) (N : Env → Prop) (Q : SR → Env → Prop) : KL .bk s N Q = Q .nx s := by
  try simp only [W_sl, FW_sl, OK_sl, BK_sl, gK_sl, aK_sl, vK_sl, pK_sl, qK_sl, mK_sl, tK_sl, KS_sl, KL_sl, oK_sl, intK_sl, raiK_sl]
  first | exact Y0.KL_bk | exact Y0.KL_bk _ _ | exact Y0.KL_bk _ _ _ | exact Y0.KL_bk _ _ _ _ | (apply Y0.KL_bk <;> assumption)
theorem KL_rt (o : O) (s : Env) (N : Env → Prop) (Q : SR → Env → Prop) : KL (.rt o) s N Q = Q (.rt o) s := by
  try simp only [W_sl, FW_sl, OK_sl, BK_sl, gK_sl, aK_sl, vK_sl, pK_sl, qK_sl, mK_sl, tK_sl, KS_sl, KL_sl, oK_sl, intK_sl, raiK_sl]
  first | exact Y0.KL_rt | exact Y0.KL_rt _ _ | exact Y0.KL_rt _ _ _ | exact Y0.KL_rt _ _ _ _ | (apply Y0.KL_rt <;> assumption)
section
variable {s : Env} {X : Ex → Env → Prop} {Q : α → Env → Prop}
theorem W_bind {m : M β} {f : β → M α} : W (M.bind m f s) Q X = W (m s) (fun a s' => W (f a s') Q X) X := by
  try simp only [W_sl, FW_sl, OK_sl, BK_sl, gK_sl, aK_sl, vK_sl, pK_sl, qK_sl, mK_sl, tK_sl, KS_sl, KL_sl, oK_sl, intK_sl, raiK_sl]
  first | exact Y0.W_bind | exact Y0.W_bind _ _ | exact Y0.W_bind _ _ _ | exact Y0.W_bind _ _ _ _ | (apply Y0.W_bind <;> assumption)
theorem W_pure {a : α} : W ((M.pure a : M α) s) Q X = Q a s := by
  try simp only [W_sl, FW_sl, OK_sl, BK_sl, gK_sl, aK_sl, vK_sl, pK_sl, qK_sl, mK_sl, tK_sl, KS_sl, KL_sl, oK_sl, intK_sl, raiK_sl]
  first | exact Y0.W_pure | exact Y0.W_pure _ _ | exact Y0.W_pure _ _ _ | exact Y0.W_pure _ _ _ _ | (apply Y0.W_pure <;> assumption)
theorem W_stuck : W ((M.stuck : M α) s) Q X = False := by
  try simp only [W_sl, FW_sl, OK_sl, BK_sl, gK_sl, aK_sl, vK_sl, pK_sl, qK_sl, mK_sl, tK_sl, KS_sl, KL_sl, oK_sl, intK_sl, raiK_sl]
  first | exact Y0.W_stuck | exact Y0.W_stuck _ _ | exact Y0.W_stuck _ _ _ | exact Y0.W_stuck _ _ _ _ | (apply Y0.W_stuck <;> assumption)
theorem W_opt {o : Option α} : W (opt o s) Q X = OK o fun a => Q a s := by
  try simp only [W_sl, FW_sl, OK_sl, BK_sl, gK_sl, aK_sl, vK_sl, pK_sl, qK_sl, mK_sl, tK_sl, KS_sl, KL_sl, oK_sl, intK_sl, raiK_sl]
  first | exact Y0.W_opt | exact Y0.W_opt _ _ | exact Y0.W_opt _ _ _ | exact Y0.W_opt _ _ _ _ | (apply Y0.W_opt <;> assumption)
theorem W_iteM {b : Bool} {x y : M α} : W ((if b = true then x else y) s) Q X = BK b (W (x s) Q X) (W (y s) Q X) := by
  try simp only [W_sl, FW_sl, OK_sl, BK_sl, gK_sl, aK_sl, vK_sl, pK_sl, qK_sl, mK_sl, tK_sl, KS_sl, KL_sl, oK_sl, intK_sl, raiK_sl]
  first | exact Y0.W_iteM | exact Y0.W_iteM _ _ | exact Y0.W_iteM _ _ _ | exact Y0.W_iteM _ _ _ _ | (apply Y0.W_iteM <;> assumption)
theorem W_matchA {a : A} {f : D → R α} : W (match a.get s with | some d => f d | none => .st) Q X = aK a s fun d => W (f d) Q X := by
  try simp only [W_sl, FW_sl, OK_sl, BK_sl, gK_sl, aK_sl, vK_sl, pK_sl, qK_sl, mK_sl, tK_sl, KS_sl, KL_sl, oK_sl, intK_sl, raiK_sl]
  first | exact Y0.W_matchA | exact Y0.W_matchA _ _ | exact Y0.W_matchA _ _ _ | exact Y0.W_matchA _ _ _ _ | (apply Y0.W_matchA <;> assumption)
theorem W_const {d : D} {Q : O → Env → Prop} : W (constD d s) Q X = Q (.frz d) s := by
  try simp only [W_sl, FW_sl, OK_sl, BK_sl, gK_sl, aK_sl, vK_sl, pK_sl, qK_sl, mK_sl, tK_sl, KS_sl, KL_sl, oK_sl, intK_sl, raiK_sl]
  first | exact Y0.W_const | exact Y0.W_const _ _ | exact Y0.W_const _ _ _ | exact Y0.W_const _ _ _ _ | (apply Y0.W_const <;> assumption)
end
section
variable (C : Cxt)
end
section
variable {C : Cxt} {s : Env} {X : Ex → Env → Prop}
theorem dOf_W {v : M O} {Q : D → Env → Prop} : W (dOf v s) Q X = W (v s) (fun o s1 => OK (frzO o) fun d => Q d s1) X := by
  try simp only [W_sl, FW_sl, OK_sl, BK_sl, gK_sl, aK_sl, vK_sl, pK_sl, qK_sl, mK_sl, tK_sl, KS_sl, KL_sl, oK_sl, intK_sl, raiK_sl]
  first | exact Y0.dOf_W | exact Y0.dOf_W _ _ | exact Y0.dOf_W _ _ _ | exact Y0.dOf_W _ _ _ _ | (apply Y0.dOf_W <;> assumption)
theorem aOf_W {v : M O} {Q : A → Env → Prop} : W (aOf v s) Q X = W (v s) (fun o s1 => OK (frzO o) fun d => Q (.val d) s1) X := by
  try simp only [W_sl, FW_sl, OK_sl, BK_sl, gK_sl, aK_sl, vK_sl, pK_sl, qK_sl, mK_sl, tK_sl, KS_sl, KL_sl, oK_sl, intK_sl, raiK_sl]
  first | exact Y0.aOf_W | exact Y0.aOf_W _ _ | exact Y0.aOf_W _ _ _ | exact Y0.aOf_W _ _ _ _ | (apply Y0.aOf_W <;> assumption)
theorem tOf_W {v : M A} {Q : Bool → Env → Prop} : W (tOf v s) Q X = W (v s) (fun a s1 => aK a s1 fun d => OK d.tru fun b => Q b s1) X := by
  try simp only [W_sl, FW_sl, OK_sl, BK_sl, gK_sl, aK_sl, vK_sl, pK_sl, qK_sl, mK_sl, tK_sl, KS_sl, KL_sl, oK_sl, intK_sl, raiK_sl]
  first | exact Y0.tOf_W | exact Y0.tOf_W _ _ | exact Y0.tOf_W _ _ _ | exact Y0.tOf_W _ _ _ _ | (apply Y0.tOf_W <;> assumption)
theorem itOf_W {v : M O} {Q : List D → Env → Prop} : W (itOf v s) Q X = W (v s) (fun o s1 => OK (frzO o) fun d => OK (itemsD d) fun xs => Q xs s1) X := by
  try simp only [W_sl, FW_sl, OK_sl, BK_sl, gK_sl, aK_sl, vK_sl, pK_sl, qK_sl, mK_sl, tK_sl, KS_sl, KL_sl, oK_sl, intK_sl, raiK_sl]
  first | exact Y0.itOf_W | exact Y0.itOf_W _ _ | exact Y0.itOf_W _ _ _ | exact Y0.itOf_W _ _ _ _ | (apply Y0.itOf_W <;> assumption)
theorem one_W {x : M A} {k : D → M α} {Q : α → Env → Prop} : W (one x k s) Q X = W (x s) (fun a s1 => aK a s1 fun d => W (k d s1) Q X) X := by
  try simp only [W_sl, FW_sl, OK_sl, BK_sl, gK_sl, aK_sl, vK_sl, pK_sl, qK_sl, mK_sl, tK_sl, KS_sl, KL_sl, oK_sl, intK_sl, raiK_sl]
  first | exact Y0.one_W | exact Y0.one_W _ _ | exact Y0.one_W _ _ _ | exact Y0.one_W _ _ _ _ | (apply Y0.one_W <;> assumption)
theorem two_W {x y : M A} {k : D → D → M α} {Q : α → Env → Prop} : W (two x y k s) Q X = W (x s) (fun a s1 => W (y s1) (fun b s2 => aK a s2 fun u => aK b s2 fun v => W (k u v s2) Q X) X) X := by
  try simp only [W_sl, FW_sl, OK_sl, BK_sl, gK_sl, aK_sl, vK_sl, pK_sl, qK_sl, mK_sl, tK_sl, KS_sl, KL_sl, oK_sl, intK_sl, raiK_sl]
  first | exact Y0.two_W | exact Y0.two_W _ _ | exact Y0.two_W _ _ _ | exact Y0.two_W _ _ _ _ | (apply Y0.two_W <;> assumption)
theorem many_W {x : M (List A)} {k : List D → M α} {Q : α → Env → Prop} : W (many x k s) Q X = W (x s) (fun as s1 => OK (gets s1 as) fun ds => W (k ds s1) Q X) X := by
  try simp only [W_sl, FW_sl, OK_sl, BK_sl, gK_sl, aK_sl, vK_sl, pK_sl, qK_sl, mK_sl, tK_sl, KS_sl, KL_sl, oK_sl, intK_sl, raiK_sl]
  first | exact Y0.many_W | exact Y0.many_W _ _ | exact Y0.many_W _ _ _ | exact Y0.many_W _ _ _ _ | (apply Y0.many_W <;> assumption)
theorem blM_W {t : M Bool} {Q : O → Env → Prop} : W (blM t s) Q X = W (t s) (fun b s1 => Q (.frz (.bl b)) s1) X := by
  try simp only [W_sl, FW_sl, OK_sl, BK_sl, gK_sl, aK_sl, vK_sl, pK_sl, qK_sl, mK_sl, tK_sl, KS_sl, KL_sl, oK_sl, intK_sl, raiK_sl]
  first | exact Y0.blM_W | exact Y0.blM_W _ _ | exact Y0.blM_W _ _ _ | exact Y0.blM_W _ _ _ _ | (apply Y0.blM_W <;> assumption)
theorem eA_mk {e : E} (h : isMk e = true) {Q : A → Env → Prop} : W (eA C e s) Q X = W (eV C e s) (fun o s1 => OK (frzO o) fun d => Q (.val d) s1) X := by
  try simp only [W_sl, FW_sl, OK_sl, BK_sl, gK_sl, aK_sl, vK_sl, pK_sl, qK_sl, mK_sl, tK_sl, KS_sl, KL_sl, oK_sl, intK_sl, raiK_sl]
  first | exact Y0.eA_mk | exact Y0.eA_mk _ _ | exact Y0.eA_mk _ _ _ | exact Y0.eA_mk _ _ _ _ | (apply Y0.eA_mk <;> assumption)
theorem eT_mk {e : E} (h : isMk e = true) {Q : Bool → Env → Prop} : W (eT C e s) Q X = W (eV C e s) (fun o s1 => OK (frzO o) fun d => OK d.tru fun b => Q b s1) X := by
  try simp only [W_sl, FW_sl, OK_sl, BK_sl, gK_sl, aK_sl, vK_sl, pK_sl, qK_sl, mK_sl, tK_sl, KS_sl, KL_sl, oK_sl, intK_sl, raiK_sl]
  first | exact Y0.eT_mk | exact Y0.eT_mk _ _ | exact Y0.eT_mk _ _ _ | exact Y0.eT_mk _ _ _ _ | (apply Y0.eT_mk <;> assumption)
theorem eW_mk {e : E} (h : isMk e = true) {Q : A → Env → Prop} : W (eW C e s) Q X = W (eV C e s) (fun o s1 => OK (frzO o) fun d => Q (.val d) s1) X := by
  try simp only [W_sl, FW_sl, OK_sl, BK_sl, gK_sl, aK_sl, vK_sl, pK_sl, qK_sl, mK_sl, tK_sl, KS_sl, KL_sl, oK_sl, intK_sl, raiK_sl]
  first | exact Y0.eW_mk | exact Y0.eW_mk _ _ | exact Y0.eW_mk _ _ _ | exact Y0.eW_mk _ _ _ _ | (apply Y0.eW_mk <;> assumption)
theorem eI_mk {e : E} (h : isMk e = true) {Q : List D → Env → Prop} : W (eI C e s) Q X = W (eV C e s) (fun o s1 => OK (frzO o) fun d => OK (itemsD d) fun xs => Q xs s1) X := by
  try simp only [W_sl, FW_sl, OK_sl, BK_sl, gK_sl, aK_sl, vK_sl, pK_sl, qK_sl, mK_sl, tK_sl, KS_sl, KL_sl, oK_sl, intK_sl, raiK_sl]
  first | exact Y0.eI_mk | exact Y0.eI_mk _ _ | exact Y0.eI_mk _ _ _ | exact Y0.eI_mk _ _ _ _ | (apply Y0.eI_mk <;> assumption)
theorem eA_ts {e : E} (h : isTs e = true) {Q : A → Env → Prop} : W (eA C e s) Q X = W (eV C e s) (fun o s1 => OK (frzO o) fun d => Q (.val d) s1) X := by
  try simp only [W_sl, FW_sl, OK_sl, BK_sl, gK_sl, aK_sl, vK_sl, pK_sl, qK_sl, mK_sl, tK_sl, KS_sl, KL_sl, oK_sl, intK_sl, raiK_sl]
  first | exact Y0.eA_ts | exact Y0.eA_ts _ _ | exact Y0.eA_ts _ _ _ | exact Y0.eA_ts _ _ _ _ | (apply Y0.eA_ts <;> assumption)
theorem eW_ts {e : E} (h : isTs e = true) {Q : A → Env → Prop} : W (eW C e s) Q X = W (eV C e s) (fun o s1 => OK (frzO o) fun d => Q (.val d) s1) X := by
  try simp only [W_sl, FW_sl, OK_sl, BK_sl, gK_sl, aK_sl, vK_sl, pK_sl, qK_sl, mK_sl, tK_sl, KS_sl, KL_sl, oK_sl, intK_sl, raiK_sl]
  first | exact Y0.eW_ts | exact Y0.eW_ts _ _ | exact Y0.eW_ts _ _ _ | exact Y0.eW_ts _ _ _ _ | (apply Y0.eW_ts <;> assumption)
theorem eD_W {e : E} {Q : D → Env → Prop} : W (eD C e s) Q X = W (eV C e s) (fun o s1 => OK (frzO o) fun d => Q d s1) X := by
  try simp only [W_sl, FW_sl, OK_sl, BK_sl, gK_sl, aK_sl, vK_sl, pK_sl, qK_sl, mK_sl, tK_sl, KS_sl, KL_sl, oK_sl, intK_sl, raiK_sl]
  first | exact Y0.eD_W | exact Y0.eD_W _ _ | exact Y0.eD_W _ _ _ | exact Y0.eD_W _ _ _ _ | (apply Y0.eD_W <;> assumption)
theorem frzO_frz (d : D) : frzO (.frz d) = some d := by
  try simp only [W_sl, FW_sl, OK_sl, BK_sl, gK_sl, aK_sl, vK_sl, pK_sl, qK_sl, mK_sl, tK_sl, KS_sl, KL_sl, oK_sl, intK_sl, raiK_sl]
  first | exact Y0.frzO_frz | exact Y0.frzO_frz _ _ | exact Y0.frzO_frz _ _ _ | exact Y0.frzO_frz _ _ _ _ | (apply Y0.frzO_frz <;> assumption)
theorem frzO_lst (d : List D) : frzO (.lst d) = some (.lst d) := by
  try simp only [W_sl, FW_sl, OK_sl, BK_sl, gK_sl, aK_sl, vK_sl, pK_sl, qK_sl, mK_sl, tK_sl, KS_sl, KL_sl, oK_sl, intK_sl, raiK_sl]
  first | exact Y0.frzO_lst | exact Y0.frzO_lst _ _ | exact Y0.frzO_lst _ _ _ | exact Y0.frzO_lst _ _ _ _ | (apply Y0.frzO_lst <;> assumption)
theorem frzO_dct (d : List (D × D)) : frzO (.dct d) = some (.dct d) := by
  try simp only [W_sl, FW_sl, OK_sl, BK_sl, gK_sl, aK_sl, vK_sl, pK_sl, qK_sl, mK_sl, tK_sl, KS_sl, KL_sl, oK_sl, intK_sl, raiK_sl]
  first | exact Y0.frzO_dct | exact Y0.frzO_dct _ _ | exact Y0.frzO_dct _ _ _ | exact Y0.frzO_dct _ _ _ _ | (apply Y0.frzO_dct <;> assumption)
theorem frzO_ins (c : Str) (d : List (Str × D)) : frzO (.ins c d) = none := by
  try simp only [W_sl, FW_sl, OK_sl, BK_sl, gK_sl, aK_sl, vK_sl, pK_sl, qK_sl, mK_sl, tK_sl, KS_sl, KL_sl, oK_sl, intK_sl, raiK_sl]
  first | exact Y0.frzO_ins | exact Y0.frzO_ins _ _ | exact Y0.frzO_ins _ _ _ | exact Y0.frzO_ins _ _ _ _ | (apply Y0.frzO_ins <;> assumption)
theorem frzO_exc (c : Str) (d : Option (Str × Int)) : frzO (.exc c d) = none := by
  try simp only [W_sl, FW_sl, OK_sl, BK_sl, gK_sl, aK_sl, vK_sl, pK_sl, qK_sl, mK_sl, tK_sl, KS_sl, KL_sl, oK_sl, intK_sl, raiK_sl]
  first | exact Y0.frzO_exc | exact Y0.frzO_exc _ _ | exact Y0.frzO_exc _ _ _ | exact Y0.frzO_exc _ _ _ _ | (apply Y0.frzO_exc <;> assumption)
theorem freeze_W {i : Nat} {Q : D → Env → Prop} : W (freezeVar i s) Q X = vK (getO s i) i s Q := by
  try simp only [W_sl, FW_sl, OK_sl, BK_sl, gK_sl, aK_sl, vK_sl, pK_sl, qK_sl, mK_sl, tK_sl, KS_sl, KL_sl, oK_sl, intK_sl, raiK_sl]
  first | exact Y0.freeze_W | exact Y0.freeze_W _ _ | exact Y0.freeze_W _ _ _ | exact Y0.freeze_W _ _ _ _ | (apply Y0.freeze_W <;> assumption)
variable {i : Nat} {x : Str} {p : Pos}
theorem eV_var {Q : O → Env → Prop} : W (eV C (.var i x p) s) Q X = vK (getO s i) i s fun d s1 => Q (.frz d) s1 := by
  try simp only [W_sl, FW_sl, OK_sl, BK_sl, gK_sl, aK_sl, vK_sl, pK_sl, qK_sl, mK_sl, tK_sl, KS_sl, KL_sl, oK_sl, intK_sl, raiK_sl]
  first | exact Y0.eV_var | exact Y0.eV_var _ _ | exact Y0.eV_var _ _ _ | exact Y0.eV_var _ _ _ _ | (apply Y0.eV_var <;> assumption)
theorem varA_W {Q : A → Env → Prop} : W (match getO s i with
      | some (.frz d) => (.ok (.val d) s : R A)
      | some _ => .ok (.plc i) s
      | none => .st) Q X = pK (getO s i) i s Q := by
  try simp only [W_sl, FW_sl, OK_sl, BK_sl, gK_sl, aK_sl, vK_sl, pK_sl, qK_sl, mK_sl, tK_sl, KS_sl, KL_sl, oK_sl, intK_sl, raiK_sl]
  first | exact Y0.varA_W | exact Y0.varA_W _ _ | exact Y0.varA_W _ _ _ | exact Y0.varA_W _ _ _ _ | (apply Y0.varA_W <;> assumption)
theorem eA_var {Q : A → Env → Prop} : W (eA C (.var i x p) s) Q X = pK (getO s i) i s Q := by
  try simp only [W_sl, FW_sl, OK_sl, BK_sl, gK_sl, aK_sl, vK_sl, pK_sl, qK_sl, mK_sl, tK_sl, KS_sl, KL_sl, oK_sl, intK_sl, raiK_sl]
  first | exact Y0.eA_var | exact Y0.eA_var _ _ | exact Y0.eA_var _ _ _ | exact Y0.eA_var _ _ _ _ | (apply Y0.eA_var <;> assumption)
theorem eW_var {Q : A → Env → Prop} : W (eW C (.var i x p) s) Q X = pK (getO s i) i s Q := by
  try simp only [W_sl, FW_sl, OK_sl, BK_sl, gK_sl, aK_sl, vK_sl, pK_sl, qK_sl, mK_sl, tK_sl, KS_sl, KL_sl, oK_sl, intK_sl, raiK_sl]
  first | exact Y0.eW_var | exact Y0.eW_var _ _ | exact Y0.eW_var _ _ _ | exact Y0.eW_var _ _ _ _ | (apply Y0.eW_var <;> assumption)
theorem eT_var {Q : Bool → Env → Prop} : W (eT C (.var i x p) s) Q X = pK (getO s i) i s fun a s1 => aK a s1 fun d => OK d.tru fun b => Q b s1 := by
  try simp only [W_sl, FW_sl, OK_sl, BK_sl, gK_sl, aK_sl, vK_sl, pK_sl, qK_sl, mK_sl, tK_sl, KS_sl, KL_sl, oK_sl, intK_sl, raiK_sl]
  first | exact Y0.eT_var | exact Y0.eT_var _ _ | exact Y0.eT_var _ _ _ | exact Y0.eT_var _ _ _ _ | (apply Y0.eT_var <;> assumption)
theorem eI_var {Q : List D → Env → Prop} : W (eI C (.var i x p) s) Q X = vK (getO s i) i s fun d s1 => OK (itemsD d) fun xs => Q xs s1 := by
  try simp only [W_sl, FW_sl, OK_sl, BK_sl, gK_sl, aK_sl, vK_sl, pK_sl, qK_sl, mK_sl, tK_sl, KS_sl, KL_sl, oK_sl, intK_sl, raiK_sl]
  first | exact Y0.eI_var | exact Y0.eI_var _ _ | exact Y0.eI_var _ _ _ | exact Y0.eI_var _ _ _ _ | (apply Y0.eI_var <;> assumption)
theorem eV_non {k : Nat} {Q : O → Env → Prop} : W (eV C (.non k p) s) Q X = Q (.frz .non) s := by
  try simp only [W_sl, FW_sl, OK_sl, BK_sl, gK_sl, aK_sl, vK_sl, pK_sl, qK_sl, mK_sl, tK_sl, KS_sl, KL_sl, oK_sl, intK_sl, raiK_sl]
  first | exact Y0.eV_non | exact Y0.eV_non _ _ | exact Y0.eV_non _ _ _ | exact Y0.eV_non _ _ _ _ | (apply Y0.eV_non <;> assumption)
theorem eV_bl {b : Bool} {k : Nat} {Q : O → Env → Prop} : W (eV C (.bl b k p) s) Q X = Q (.frz (.bl b)) s := by
  try simp only [W_sl, FW_sl, OK_sl, BK_sl, gK_sl, aK_sl, vK_sl, pK_sl, qK_sl, mK_sl, tK_sl, KS_sl, KL_sl, oK_sl, intK_sl, raiK_sl]
  first | exact Y0.eV_bl | exact Y0.eV_bl _ _ | exact Y0.eV_bl _ _ _ | exact Y0.eV_bl _ _ _ _ | (apply Y0.eV_bl <;> assumption)
theorem eV_int {b : Int} {k : Nat} {Q : O → Env → Prop} : W (eV C (.int b k p) s) Q X = Q (.frz (.int b)) s := by
  try simp only [W_sl, FW_sl, OK_sl, BK_sl, gK_sl, aK_sl, vK_sl, pK_sl, qK_sl, mK_sl, tK_sl, KS_sl, KL_sl, oK_sl, intK_sl, raiK_sl]
  first | exact Y0.eV_int | exact Y0.eV_int _ _ | exact Y0.eV_int _ _ _ | exact Y0.eV_int _ _ _ _ | (apply Y0.eV_int <;> assumption)
theorem eV_str {b : Str} {k : Nat} {Q : O → Env → Prop} : W (eV C (.str b k p) s) Q X = Q (.frz (.str b)) s := by
  try simp only [W_sl, FW_sl, OK_sl, BK_sl, gK_sl, aK_sl, vK_sl, pK_sl, qK_sl, mK_sl, tK_sl, KS_sl, KL_sl, oK_sl, intK_sl, raiK_sl]
  first | exact Y0.eV_str | exact Y0.eV_str _ _ | exact Y0.eV_str _ _ _ | exact Y0.eV_str _ _ _ _ | (apply Y0.eV_str <;> assumption)
theorem eV_glb {Q : O → Env → Prop} : W (eV C (.glb x p) s) Q X = OK (C.con x) fun d => Q (.frz d) s := by
  try simp only [W_sl, FW_sl, OK_sl, BK_sl, gK_sl, aK_sl, vK_sl, pK_sl, qK_sl, mK_sl, tK_sl, KS_sl, KL_sl, oK_sl, intK_sl, raiK_sl]
  first | exact Y0.eV_glb | exact Y0.eV_glb _ _ | exact Y0.eV_glb _ _ _ | exact Y0.eV_glb _ _ _ _ | (apply Y0.eV_glb <;> assumption)
variable {a b c d : E} {es : List E}
theorem eV_bin {op : Bop} {Q : O → Env → Prop} : W (eV C (.bin op a b p) s) Q X = W (eA C a s) (fun x s1 => W (eA C b s1) (fun y s2 => aK x s2 fun u => aK y s2 fun v => OK (binD op u v) fun o => Q o s2) X) X := by
  try simp only [W_sl, FW_sl, OK_sl, BK_sl, gK_sl, aK_sl, vK_sl, pK_sl, qK_sl, mK_sl, tK_sl, KS_sl, KL_sl, oK_sl, intK_sl, raiK_sl]
  first | exact Y0.eV_bin | exact Y0.eV_bin _ _ | exact Y0.eV_bin _ _ _ | exact Y0.eV_bin _ _ _ _ | (apply Y0.eV_bin <;> assumption)
theorem eV_neg {Q : O → Env → Prop} : W (eV C (.neg a p) s) Q X = W (eA C a s) (fun x s1 => aK x s1 fun u => OK (negD u) fun d => Q (.frz d) s1) X := by
  try simp only [W_sl, FW_sl, OK_sl, BK_sl, gK_sl, aK_sl, vK_sl, pK_sl, qK_sl, mK_sl, tK_sl, KS_sl, KL_sl, oK_sl, intK_sl, raiK_sl]
  first | exact Y0.eV_neg | exact Y0.eV_neg _ _ | exact Y0.eV_neg _ _ _ | exact Y0.eV_neg _ _ _ _ | (apply Y0.eV_neg <;> assumption)
theorem eT_nt {Q : Bool → Env → Prop} : W (eT C (.nt a p) s) Q X = W (eT C a s) (fun b s1 => Q (!b) s1) X := by
  try simp only [W_sl, FW_sl, OK_sl, BK_sl, gK_sl, aK_sl, vK_sl, pK_sl, qK_sl, mK_sl, tK_sl, KS_sl, KL_sl, oK_sl, intK_sl, raiK_sl]
  first | exact Y0.eT_nt | exact Y0.eT_nt _ _ | exact Y0.eT_nt _ _ _ | exact Y0.eT_nt _ _ _ _ | (apply Y0.eT_nt <;> assumption)
theorem eV_nt {Q : O → Env → Prop} : W (eV C (.nt a p) s) Q X = W (eA C a s) (fun x s1 => aK x s1 fun d => OK d.tru fun b => Q (.frz (.bl (!b))) s1) X := by
  try simp only [W_sl, FW_sl, OK_sl, BK_sl, gK_sl, aK_sl, vK_sl, pK_sl, qK_sl, mK_sl, tK_sl, KS_sl, KL_sl, oK_sl, intK_sl, raiK_sl]
  first | exact Y0.eV_nt | exact Y0.eV_nt _ _ | exact Y0.eV_nt _ _ _ | exact Y0.eV_nt _ _ _ _ | (apply Y0.eV_nt <;> assumption)
theorem eV_band {Q : O → Env → Prop} : W (eV C (.band es p) s) Q X = W (eAnd C es s) (fun d s1 => Q (.frz d) s1) X := by
  try simp only [W_sl, FW_sl, OK_sl, BK_sl, gK_sl, aK_sl, vK_sl, pK_sl, qK_sl, mK_sl, tK_sl, KS_sl, KL_sl, oK_sl, intK_sl, raiK_sl]
  first | exact Y0.eV_band | exact Y0.eV_band _ _ | exact Y0.eV_band _ _ _ | exact Y0.eV_band _ _ _ _ | (apply Y0.eV_band <;> assumption)
theorem eV_bor {Q : O → Env → Prop} : W (eV C (.bor es p) s) Q X = W (eOr C es s) (fun d s1 => Q (.frz d) s1) X := by
  try simp only [W_sl, FW_sl, OK_sl, BK_sl, gK_sl, aK_sl, vK_sl, pK_sl, qK_sl, mK_sl, tK_sl, KS_sl, KL_sl, oK_sl, intK_sl, raiK_sl]
  first | exact Y0.eV_bor | exact Y0.eV_bor _ _ | exact Y0.eV_bor _ _ _ | exact Y0.eV_bor _ _ _ _ | (apply Y0.eV_bor <;> assumption)
theorem eT_band {Q : Bool → Env → Prop} : W (eT C (.band es p) s) Q X = W (eTs C true es s) Q X := by
  try simp only [W_sl, FW_sl, OK_sl, BK_sl, gK_sl, aK_sl, vK_sl, pK_sl, qK_sl, mK_sl, tK_sl, KS_sl, KL_sl, oK_sl, intK_sl, raiK_sl]
  first | exact Y0.eT_band | exact Y0.eT_band _ _ | exact Y0.eT_band _ _ _ | exact Y0.eT_band _ _ _ _ | (apply Y0.eT_band <;> assumption)
theorem eT_bor {Q : Bool → Env → Prop} : W (eT C (.bor es p) s) Q X = W (eTs C false es s) Q X := by
  try simp only [W_sl, FW_sl, OK_sl, BK_sl, gK_sl, aK_sl, vK_sl, pK_sl, qK_sl, mK_sl, tK_sl, KS_sl, KL_sl, oK_sl, intK_sl, raiK_sl]
  first | exact Y0.eT_bor | exact Y0.eT_bor _ _ | exact Y0.eT_bor _ _ _ | exact Y0.eT_bor _ _ _ _ | (apply Y0.eT_bor <;> assumption)
theorem eAnd_one {Q : D → Env → Prop} : W (eAnd C [a] s) Q X = W (eD C a s) Q X := by
  try simp only [W_sl, FW_sl, OK_sl, BK_sl, gK_sl, aK_sl, vK_sl, pK_sl, qK_sl, mK_sl, tK_sl, KS_sl, KL_sl, oK_sl, intK_sl, raiK_sl]
  first | exact Y0.eAnd_one | exact Y0.eAnd_one _ _ | exact Y0.eAnd_one _ _ _ | exact Y0.eAnd_one _ _ _ _ | (apply Y0.eAnd_one <;> assumption)
theorem eAnd_cons {Q : D → Env → Prop} : W (eAnd C (a :: b :: es) s) Q X = W (eD C a s) (fun d s1 => OK d.tru fun t => BK t (W (eAnd C (b :: es) s1) Q X) (Q d s1)) X := by
  try simp only [W_sl, FW_sl, OK_sl, BK_sl, gK_sl, aK_sl, vK_sl, pK_sl, qK_sl, mK_sl, tK_sl, KS_sl, KL_sl, oK_sl, intK_sl, raiK_sl]
  first | exact Y0.eAnd_cons | exact Y0.eAnd_cons _ _ | exact Y0.eAnd_cons _ _ _ | exact Y0.eAnd_cons _ _ _ _ | (apply Y0.eAnd_cons <;> assumption)
theorem eOr_one {Q : D → Env → Prop} : W (eOr C [a] s) Q X = W (eD C a s) Q X := by
  try simp only [W_sl, FW_sl, OK_sl, BK_sl, gK_sl, aK_sl, vK_sl, pK_sl, qK_sl, mK_sl, tK_sl, KS_sl, KL_sl, oK_sl, intK_sl, raiK_sl]
  first | exact Y0.eOr_one | exact Y0.eOr_one _ _ | exact Y0.eOr_one _ _ _ | exact Y0.eOr_one _ _ _ _ | (apply Y0.eOr_one <;> assumption)
theorem eOr_cons {Q : D → Env → Prop} : W (eOr C (a :: b :: es) s) Q X = W (eD C a s) (fun d s1 => OK d.tru fun t => BK t (Q d s1) (W (eOr C (b :: es) s1) Q X)) X := by
  try simp only [W_sl, FW_sl, OK_sl, BK_sl, gK_sl, aK_sl, vK_sl, pK_sl, qK_sl, mK_sl, tK_sl, KS_sl, KL_sl, oK_sl, intK_sl, raiK_sl]
  first | exact Y0.eOr_cons | exact Y0.eOr_cons _ _ | exact Y0.eOr_cons _ _ _ | exact Y0.eOr_cons _ _ _ _ | (apply Y0.eOr_cons <;> assumption)
theorem eTs_nil {c : Bool} {Q : Bool → Env → Prop} : W (eTs C c [] s) Q X = Q c s := by
  try simp only [W_sl, FW_sl, OK_sl, BK_sl, gK_sl, aK_sl, vK_sl, pK_sl, qK_sl, mK_sl, tK_sl, KS_sl, KL_sl, oK_sl, intK_sl, raiK_sl]
  first | exact Y0.eTs_nil | exact Y0.eTs_nil _ _ | exact Y0.eTs_nil _ _ _ | exact Y0.eTs_nil _ _ _ _ | (apply Y0.eTs_nil <;> assumption)
theorem eTs_and {Q : Bool → Env → Prop} : W (eTs C true (a :: es) s) Q X = W (eT C a s) (fun t s1 => BK t (W (eTs C true es s1) Q X) (Q false s1)) X := by
  try simp only [W_sl, FW_sl, OK_sl, BK_sl, gK_sl, aK_sl, vK_sl, pK_sl, qK_sl, mK_sl, tK_sl, KS_sl, KL_sl, oK_sl, intK_sl, raiK_sl]
  first | exact Y0.eTs_and | exact Y0.eTs_and _ _ | exact Y0.eTs_and _ _ _ | exact Y0.eTs_and _ _ _ _ | (apply Y0.eTs_and <;> assumption)
theorem eTs_or {Q : Bool → Env → Prop} : W (eTs C false (a :: es) s) Q X = W (eT C a s) (fun t s1 => BK t (Q true s1) (W (eTs C false es s1) Q X)) X := by
  try simp only [W_sl, FW_sl, OK_sl, BK_sl, gK_sl, aK_sl, vK_sl, pK_sl, qK_sl, mK_sl, tK_sl, KS_sl, KL_sl, oK_sl, intK_sl, raiK_sl]
  first | exact Y0.eTs_or | exact Y0.eTs_or _ _ | exact Y0.eTs_or _ _ _ | exact Y0.eTs_or _ _ _ _ | (apply Y0.eTs_or <;> assumption)
theorem eT_cmp {op : Cop} {Q : Bool → Env → Prop} : W (eT C (.cmp op a b p) s) Q X = W (eA C a s) (fun x s1 => W (eA C b s1) (fun y s2 => aK x s2 fun u => aK y s2 fun v => OK (cmpD op u v) fun o => Q o s2) X) X := by
  try simp only [W_sl, FW_sl, OK_sl, BK_sl, gK_sl, aK_sl, vK_sl, pK_sl, qK_sl, mK_sl, tK_sl, KS_sl, KL_sl, oK_sl, intK_sl, raiK_sl]
  first | exact Y0.eT_cmp | exact Y0.eT_cmp _ _ | exact Y0.eT_cmp _ _ _ | exact Y0.eT_cmp _ _ _ _ | (apply Y0.eT_cmp <;> assumption)
theorem eV_cmp {op : Cop} {Q : O → Env → Prop} : W (eV C (.cmp op a b p) s) Q X = W (eA C a s) (fun x s1 => W (eA C b s1) (fun y s2 => aK x s2 fun u => aK y s2 fun v => OK (cmpD op u v) fun o => Q (.frz (.bl o)) s2) X) X := by
  try simp only [W_sl, FW_sl, OK_sl, BK_sl, gK_sl, aK_sl, vK_sl, pK_sl, qK_sl, mK_sl, tK_sl, KS_sl, KL_sl, oK_sl, intK_sl, raiK_sl]
  first | exact Y0.eV_cmp | exact Y0.eV_cmp _ _ | exact Y0.eV_cmp _ _ _ | exact Y0.eV_cmp _ _ _ _ | (apply Y0.eV_cmp <;> assumption)
theorem chnT_W {op1 op2 : Cop} {x y z : M A} {Q : Bool → Env → Prop} : W (chnT op1 op2 x y z s) Q X = W (x s) (fun x s1 => W (y s1) (fun y s2 => aK x s2 fun u => aK y s2 fun v => OK (cmpD op1 u v) fun t =>
    BK t (W (z s2) (fun z s3 => aK y s3 fun v => aK z s3 fun w => OK (cmpD op2 v w) fun t => Q t s3) X) (Q false s2)) X) X := by
  try simp only [W_sl, FW_sl, OK_sl, BK_sl, gK_sl, aK_sl, vK_sl, pK_sl, qK_sl, mK_sl, tK_sl, KS_sl, KL_sl, oK_sl, intK_sl, raiK_sl]
  first | exact Y0.chnT_W | exact Y0.chnT_W _ _ | exact Y0.chnT_W _ _ _ | exact Y0.chnT_W _ _ _ _ | (apply Y0.chnT_W <;> assumption)
theorem eT_chn {op1 op2 : Cop} {Q : Bool → Env → Prop} : W (eT C (.chn op1 op2 a b c p) s) Q X = W (eA C a s) (fun x s1 => W (eA C b s1) (fun y s2 => aK x s2 fun u => aK y s2 fun v => OK (cmpD op1 u v) fun t =>
    BK t (W (eA C c s2) (fun z s3 => aK y s3 fun v => aK z s3 fun w => OK (cmpD op2 v w) fun t => Q t s3) X) (Q false s2)) X) X := by
  try simp only [W_sl, FW_sl, OK_sl, BK_sl, gK_sl, aK_sl, vK_sl, pK_sl, qK_sl, mK_sl, tK_sl, KS_sl, KL_sl, oK_sl, intK_sl, raiK_sl]
  first | exact Y0.eT_chn | exact Y0.eT_chn _ _ | exact Y0.eT_chn _ _ _ | exact Y0.eT_chn _ _ _ _ | (apply Y0.eT_chn <;> assumption)
theorem eV_chn {op1 op2 : Cop} {Q : O → Env → Prop} : W (eV C (.chn op1 op2 a b c p) s) Q X = W (eT C (.chn op1 op2 a b c p) s) (fun t s1 => Q (.frz (.bl t)) s1) X := by
  try simp only [W_sl, FW_sl, OK_sl, BK_sl, gK_sl, aK_sl, vK_sl, pK_sl, qK_sl, mK_sl, tK_sl, KS_sl, KL_sl, oK_sl, intK_sl, raiK_sl]
  first | exact Y0.eV_chn | exact Y0.eV_chn _ _ | exact Y0.eV_chn _ _ _ | exact Y0.eV_chn _ _ _ _ | (apply Y0.eV_chn <;> assumption)
theorem eV_ife {Q : O → Env → Prop} : W (eV C (.ife c a b p) s) Q X = W (eT C c s) (fun t s1 => BK t (W (eV C a s1) Q X) (W (eV C b s1) Q X)) X := by
  try simp only [W_sl, FW_sl, OK_sl, BK_sl, gK_sl, aK_sl, vK_sl, pK_sl, qK_sl, mK_sl, tK_sl, KS_sl, KL_sl, oK_sl, intK_sl, raiK_sl]
  first | exact Y0.eV_ife | exact Y0.eV_ife _ _ | exact Y0.eV_ife _ _ _ | exact Y0.eV_ife _ _ _ _ | (apply Y0.eV_ife <;> assumption)
theorem eAs_nil {Q : List A → Env → Prop} : W (eAs C [] s) Q X = Q [] s := by
  try simp only [W_sl, FW_sl, OK_sl, BK_sl, gK_sl, aK_sl, vK_sl, pK_sl, qK_sl, mK_sl, tK_sl, KS_sl, KL_sl, oK_sl, intK_sl, raiK_sl]
  first | exact Y0.eAs_nil | exact Y0.eAs_nil _ _ | exact Y0.eAs_nil _ _ _ | exact Y0.eAs_nil _ _ _ _ | (apply Y0.eAs_nil <;> assumption)
theorem eAs_cons {Q : List A → Env → Prop} : W (eAs C (a :: es) s) Q X = W (eA C a s) (fun x s1 => W (eAs C es s1) (fun xs s2 => Q (x :: xs) s2) X) X := by
  try simp only [W_sl, FW_sl, OK_sl, BK_sl, gK_sl, aK_sl, vK_sl, pK_sl, qK_sl, mK_sl, tK_sl, KS_sl, KL_sl, oK_sl, intK_sl, raiK_sl]
  first | exact Y0.eAs_cons | exact Y0.eAs_cons _ _ | exact Y0.eAs_cons _ _ _ | exact Y0.eAs_cons _ _ _ _ | (apply Y0.eAs_cons <;> assumption)
theorem eDs_nil {Q : List D → Env → Prop} : W (eDs C [] s) Q X = Q [] s := by
  try simp only [W_sl, FW_sl, OK_sl, BK_sl, gK_sl, aK_sl, vK_sl, pK_sl, qK_sl, mK_sl, tK_sl, KS_sl, KL_sl, oK_sl, intK_sl, raiK_sl]
  first | exact Y0.eDs_nil | exact Y0.eDs_nil _ _ | exact Y0.eDs_nil _ _ _ | exact Y0.eDs_nil _ _ _ _ | (apply Y0.eDs_nil <;> assumption)
theorem eDs_cons {Q : List D → Env → Prop} : W (eDs C (a :: es) s) Q X = W (eD C a s) (fun x s1 => W (eDs C es s1) (fun xs s2 => Q (x :: xs) s2) X) X := by
  try simp only [W_sl, FW_sl, OK_sl, BK_sl, gK_sl, aK_sl, vK_sl, pK_sl, qK_sl, mK_sl, tK_sl, KS_sl, KL_sl, oK_sl, intK_sl, raiK_sl]
  first | exact Y0.eDs_cons | exact Y0.eDs_cons _ _ | exact Y0.eDs_cons _ _ _ | exact Y0.eDs_cons _ _ _ _ | (apply Y0.eDs_cons <;> assumption)
theorem eSp_nil {Q : List D → Env → Prop} : W (eSp C [] s) Q X = Q [] s := by
  try simp only [W_sl, FW_sl, OK_sl, BK_sl, gK_sl, aK_sl, vK_sl, pK_sl, qK_sl, mK_sl, tK_sl, KS_sl, KL_sl, oK_sl, intK_sl, raiK_sl]
  first | exact Y0.eSp_nil | exact Y0.eSp_nil _ _ | exact Y0.eSp_nil _ _ _ | exact Y0.eSp_nil _ _ _ _ | (apply Y0.eSp_nil <;> assumption)
theorem eSp_cons {Q : List D → Env → Prop} (h : isStar a = false) : W (eSp C (a :: es) s) Q X = W (eD C a s) (fun x s1 => W (eSp C es s1) (fun xs s2 => Q (x :: xs) s2) X) X := by
  try simp only [W_sl, FW_sl, OK_sl, BK_sl, gK_sl, aK_sl, vK_sl, pK_sl, qK_sl, mK_sl, tK_sl, KS_sl, KL_sl, oK_sl, intK_sl, raiK_sl]
  first | exact Y0.eSp_cons | exact Y0.eSp_cons _ _ | exact Y0.eSp_cons _ _ _ | exact Y0.eSp_cons _ _ _ _ | (apply Y0.eSp_cons <;> assumption)
theorem eSp_star {Q : List D → Env → Prop} : W (eSp C (.star a p :: es) s) Q X = W (eA C a s) (fun x s1 => aK x s1 fun d => OK (itemsD d) fun xs => W (eSp C es s1) (fun ys s2 => Q (xs ++ ys) s2) X) X := by
  try simp only [W_sl, FW_sl, OK_sl, BK_sl, gK_sl, aK_sl, vK_sl, pK_sl, qK_sl, mK_sl, tK_sl, KS_sl, KL_sl, oK_sl, intK_sl, raiK_sl]
  first | exact Y0.eSp_star | exact Y0.eSp_star _ _ | exact Y0.eSp_star _ _ _ | exact Y0.eSp_star _ _ _ _ | (apply Y0.eSp_star <;> assumption)
theorem eCs_nil {fs : List Bool} {Q : List A → Env → Prop} : W (eCs C [] fs s) Q X = Q [] s := by
  try simp only [W_sl, FW_sl, OK_sl, BK_sl, gK_sl, aK_sl, vK_sl, pK_sl, qK_sl, mK_sl, tK_sl, KS_sl, KL_sl, oK_sl, intK_sl, raiK_sl]
  first | exact Y0.eCs_nil | exact Y0.eCs_nil _ _ | exact Y0.eCs_nil _ _ _ | exact Y0.eCs_nil _ _ _ _ | (apply Y0.eCs_nil <;> assumption)
theorem eCs_cons {f : Bool} {fs : List Bool} {Q : List A → Env → Prop} : W (eCs C (a :: es) (f :: fs) s) Q X = W (eArg C a f s) (fun x s1 => W (eCs C es fs s1) (fun xs s2 => Q (x :: xs) s2) X) X := by
  try simp only [W_sl, FW_sl, OK_sl, BK_sl, gK_sl, aK_sl, vK_sl, pK_sl, qK_sl, mK_sl, tK_sl, KS_sl, KL_sl, oK_sl, intK_sl, raiK_sl]
  first | exact Y0.eCs_cons | exact Y0.eCs_cons _ _ | exact Y0.eCs_cons _ _ _ | exact Y0.eCs_cons _ _ _ _ | (apply Y0.eCs_cons <;> assumption)
theorem eCs_nof {Q : List A → Env → Prop} : W (eCs C (a :: es) [] s) Q X = W (eArg C a false s) (fun x s1 => W (eCs C es [] s1) (fun xs s2 => Q (x :: xs) s2) X) X := by
  try simp only [W_sl, FW_sl, OK_sl, BK_sl, gK_sl, aK_sl, vK_sl, pK_sl, qK_sl, mK_sl, tK_sl, KS_sl, KL_sl, oK_sl, intK_sl, raiK_sl]
  first | exact Y0.eCs_nof | exact Y0.eCs_nof _ _ | exact Y0.eCs_nof _ _ _ | exact Y0.eCs_nof _ _ _ _ | (apply Y0.eCs_nof <;> assumption)
theorem eArg_lent {Q : A → Env → Prop} : W (eArg C (.var i x p) true s) Q X = pK (getO s i) i s Q := by
  try simp only [W_sl, FW_sl, OK_sl, BK_sl, gK_sl, aK_sl, vK_sl, pK_sl, qK_sl, mK_sl, tK_sl, KS_sl, KL_sl, oK_sl, intK_sl, raiK_sl]
  first | exact Y0.eArg_lent | exact Y0.eArg_lent _ _ | exact Y0.eArg_lent _ _ _ | exact Y0.eArg_lent _ _ _ _ | (apply Y0.eArg_lent <;> assumption)
theorem qK_frz (d : D) (i : Nat) (s : Env) (K : A → Env → Prop) : qK (some (.frz d)) i s K = K (.val d) s := by
  try simp only [W_sl, FW_sl, OK_sl, BK_sl, gK_sl, aK_sl, vK_sl, pK_sl, qK_sl, mK_sl, tK_sl, KS_sl, KL_sl, oK_sl, intK_sl, raiK_sl]
  first | exact Y0.qK_frz | exact Y0.qK_frz _ _ | exact Y0.qK_frz _ _ _ | exact Y0.qK_frz _ _ _ _ | (apply Y0.qK_frz <;> assumption)
theorem qK_lst (d : List D) (i : Nat) (s : Env) (K : A → Env → Prop) : qK (some (.lst d)) i s K = K (.val (.lst d)) (s.set i (some (.frz (.lst d)))) := by
  try simp only [W_sl, FW_sl, OK_sl, BK_sl, gK_sl, aK_sl, vK_sl, pK_sl, qK_sl, mK_sl, tK_sl, KS_sl, KL_sl, oK_sl, intK_sl, raiK_sl]
  first | exact Y0.qK_lst | exact Y0.qK_lst _ _ | exact Y0.qK_lst _ _ _ | exact Y0.qK_lst _ _ _ _ | (apply Y0.qK_lst <;> assumption)
theorem qK_dct (d : List (D × D)) (i : Nat) (s : Env) (K : A → Env → Prop) : qK (some (.dct d)) i s K = K (.val (.dct d)) (s.set i (some (.frz (.dct d)))) := by
  try simp only [W_sl, FW_sl, OK_sl, BK_sl, gK_sl, aK_sl, vK_sl, pK_sl, qK_sl, mK_sl, tK_sl, KS_sl, KL_sl, oK_sl, intK_sl, raiK_sl]
  first | exact Y0.qK_dct | exact Y0.qK_dct _ _ | exact Y0.qK_dct _ _ _ | exact Y0.qK_dct _ _ _ _ | (apply Y0.qK_dct <;> assumption)
theorem qK_exc (c : Str) (d : Option (Str × Int)) (i : Nat) (s : Env) (K : A → Env → Prop) : qK (some (.exc c d)) i s K = K (.plc i) s := by
  try simp only [W_sl, FW_sl, OK_sl, BK_sl, gK_sl, aK_sl, vK_sl, pK_sl, qK_sl, mK_sl, tK_sl, KS_sl, KL_sl, oK_sl, intK_sl, raiK_sl]
  first | exact Y0.qK_exc | exact Y0.qK_exc _ _ | exact Y0.qK_exc _ _ _ | exact Y0.qK_exc _ _ _ _ | (apply Y0.qK_exc <;> assumption)
theorem eArg_var {Q : A → Env → Prop} : W (eArg C (.var i x p) false s) Q X = qK (getO s i) i s Q := by
  try simp only [W_sl, FW_sl, OK_sl, BK_sl, gK_sl, aK_sl, vK_sl, pK_sl, qK_sl, mK_sl, tK_sl, KS_sl, KL_sl, oK_sl, intK_sl, raiK_sl]
  first | exact Y0.eArg_var | exact Y0.eArg_var _ _ | exact Y0.eArg_var _ _ _ | exact Y0.eArg_var _ _ _ _ | (apply Y0.eArg_var <;> assumption)
theorem eArg_oth {f : Bool} (h : isV a = false) (hs : isStar a = false) {Q : A → Env → Prop} : W (eArg C a f s) Q X = W (eD C a s) (fun d s1 => Q (.val d) s1) X := by
  try simp only [W_sl, FW_sl, OK_sl, BK_sl, gK_sl, aK_sl, vK_sl, pK_sl, qK_sl, mK_sl, tK_sl, KS_sl, KL_sl, oK_sl, intK_sl, raiK_sl]
  first | exact Y0.eArg_oth | exact Y0.eArg_oth _ _ | exact Y0.eArg_oth _ _ _ | exact Y0.eArg_oth _ _ _ _ | (apply Y0.eArg_oth <;> assumption)
theorem gets_W {as : List A} {K : List D → Prop} : OK (gets s as) K = match as with
    | [] => K []
    | a :: r => aK a s fun d => OK (gets s r) fun ds => K (d :: ds) := by
  try simp only [W_sl, FW_sl, OK_sl, BK_sl, gK_sl, aK_sl, vK_sl, pK_sl, qK_sl, mK_sl, tK_sl, KS_sl, KL_sl, oK_sl, intK_sl, raiK_sl]
  first | exact Y0.gets_W | exact Y0.gets_W _ _ | exact Y0.gets_W _ _ _ | exact Y0.gets_W _ _ _ _ | (apply Y0.gets_W <;> assumption)
theorem gets_nil {K : List D → Prop} : OK (gets s []) K = K [] := by
  try simp only [W_sl, FW_sl, OK_sl, BK_sl, gK_sl, aK_sl, vK_sl, pK_sl, qK_sl, mK_sl, tK_sl, KS_sl, KL_sl, oK_sl, intK_sl, raiK_sl]
  first | exact Y0.gets_nil | exact Y0.gets_nil _ _ | exact Y0.gets_nil _ _ _ | exact Y0.gets_nil _ _ _ _ | (apply Y0.gets_nil <;> assumption)
theorem gets_cons {a : A} {r : List A} {K : List D → Prop} : OK (gets s (a :: r)) K = aK a s fun d => OK (gets s r) fun ds => K (d :: ds) := by
  try simp only [W_sl, FW_sl, OK_sl, BK_sl, gK_sl, aK_sl, vK_sl, pK_sl, qK_sl, mK_sl, tK_sl, KS_sl, KL_sl, oK_sl, intK_sl, raiK_sl]
  first | exact Y0.gets_cons | exact Y0.gets_cons _ _ | exact Y0.gets_cons _ _ _ | exact Y0.gets_cons _ _ _ _ | (apply Y0.gets_cons <;> assumption)
end
section
variable {C : Cxt} {s : Env} {X : Ex → Env → Prop} {i : Nat} {x m : Str} {p q r : Pos} {a b c d e : E} {es : List E}
theorem doCall_W {as : List A} {Q : O → Env → Prop} : W (doCall C x as s) Q X = (decide (plcs as).Nodup = true ∧ OK (as.mapM (A.getO s)) fun os => okLend as os (C.lent x) = true ∧
    FW (C.call x os) (fun r outs => OK (lendBack as outs (C.lent x) s) fun s1 => Q r s1) (fun e outs => OK (lendBack as outs (C.lent x) s) fun s1 => X e s1)) := by
  try simp only [W_sl, FW_sl, OK_sl, BK_sl, gK_sl, aK_sl, vK_sl, pK_sl, qK_sl, mK_sl, tK_sl, KS_sl, KL_sl, oK_sl, intK_sl, raiK_sl]
  first | exact Y0.doCall_W | exact Y0.doCall_W _ _ | exact Y0.doCall_W _ _ _ | exact Y0.doCall_W _ _ _ _ | (apply Y0.doCall_W <;> assumption)
theorem eV_call {Q : O → Env → Prop} : W (eV C (.call x es p q) s) Q X = W (eCs C es (C.lent x) s) (fun as s1 => W (doCall C x as s1) Q X) X := by
  try simp only [W_sl, FW_sl, OK_sl, BK_sl, gK_sl, aK_sl, vK_sl, pK_sl, qK_sl, mK_sl, tK_sl, KS_sl, KL_sl, oK_sl, intK_sl, raiK_sl]
  first | exact Y0.eV_call | exact Y0.eV_call _ _ | exact Y0.eV_call _ _ _ | exact Y0.eV_call _ _ _ _ | (apply Y0.eV_call <;> assumption)
theorem eV_calle {Q : O → Env → Prop} : W (eV C (.calle a es q) s) Q X = W (eA C a s) (fun x s1 => match x with
    | .val (.fn g) => C.ar g = some es.length ∧ W (eCs C es (C.lent g) s1) (fun as s2 => W (doCall C g as s2) Q X) X
    | _ => False) X := by
  try simp only [W_sl, FW_sl, OK_sl, BK_sl, gK_sl, aK_sl, vK_sl, pK_sl, qK_sl, mK_sl, tK_sl, KS_sl, KL_sl, oK_sl, intK_sl, raiK_sl]
  first | exact Y0.eV_calle | exact Y0.eV_calle _ _ | exact Y0.eV_calle _ _ _ | exact Y0.eV_calle _ _ _ _ | (apply Y0.eV_calle <;> assumption)
theorem getOs_nil {K : List O → Prop} : OK (([] : List A).mapM (A.getO s)) K = K [] := by
  try simp only [W_sl, FW_sl, OK_sl, BK_sl, gK_sl, aK_sl, vK_sl, pK_sl, qK_sl, mK_sl, tK_sl, KS_sl, KL_sl, oK_sl, intK_sl, raiK_sl]
  first | exact Y0.getOs_nil | exact Y0.getOs_nil _ _ | exact Y0.getOs_nil _ _ _ | exact Y0.getOs_nil _ _ _ _ | (apply Y0.getOs_nil <;> assumption)
theorem getOs_cons {a : A} {r : List A} {K : List O → Prop} : OK ((a :: r).mapM (A.getO s)) K = OK (a.getO s) fun d => OK (r.mapM (A.getO s)) fun ds => K (d :: ds) := by
  try simp only [W_sl, FW_sl, OK_sl, BK_sl, gK_sl, aK_sl, vK_sl, pK_sl, qK_sl, mK_sl, tK_sl, KS_sl, KL_sl, oK_sl, intK_sl, raiK_sl]
  first | exact Y0.getOs_cons | exact Y0.getOs_cons _ _ | exact Y0.getOs_cons _ _ _ | exact Y0.getOs_cons _ _ _ _ | (apply Y0.getOs_cons <;> assumption)
theorem getO_val {d : D} : A.getO s (.val d) = some (.frz d) := by
  try simp only [W_sl, FW_sl, OK_sl, BK_sl, gK_sl, aK_sl, vK_sl, pK_sl, qK_sl, mK_sl, tK_sl, KS_sl, KL_sl, oK_sl, intK_sl, raiK_sl]
  first | exact Y0.getO_val | exact Y0.getO_val _ _ | exact Y0.getO_val _ _ _ | exact Y0.getO_val _ _ _ _ | (apply Y0.getO_val <;> assumption)
theorem getO_plc {i : Nat} : A.getO s (.plc i) = getO s i := by
  try simp only [W_sl, FW_sl, OK_sl, BK_sl, gK_sl, aK_sl, vK_sl, pK_sl, qK_sl, mK_sl, tK_sl, KS_sl, KL_sl, oK_sl, intK_sl, raiK_sl]
  first | exact Y0.getO_plc | exact Y0.getO_plc _ _ | exact Y0.getO_plc _ _ _ | exact Y0.getO_plc _ _ _ _ | (apply Y0.getO_plc <;> assumption)
theorem eV_bi1 (hw : isWalk x = false) (hi : (x == "isinstance") = false) {Q : O → Env → Prop} : W (eV C (.bi x [a] p q) s) Q X = W (eW C a s) (fun y s1 => aK y s1 fun d => OK (biD x [d]) fun o => Q o s1) X := by
  try simp only [W_sl, FW_sl, OK_sl, BK_sl, gK_sl, aK_sl, vK_sl, pK_sl, qK_sl, mK_sl, tK_sl, KS_sl, KL_sl, oK_sl, intK_sl, raiK_sl]
  first | exact Y0.eV_bi1 | exact Y0.eV_bi1 _ _ | exact Y0.eV_bi1 _ _ _ | exact Y0.eV_bi1 _ _ _ _ | (apply Y0.eV_bi1 <;> assumption)
theorem eV_bi2 (hw : isWalk x = false) (hi : (x == "isinstance") = false) {Q : O → Env → Prop} : W (eV C (.bi x [a, b] p q) s) Q X = W (eAs C [a, b] s) (fun y s1 => OK (gets s1 y) fun ds => OK (biD x ds) fun o => Q o s1) X := by
  try simp only [W_sl, FW_sl, OK_sl, BK_sl, gK_sl, aK_sl, vK_sl, pK_sl, qK_sl, mK_sl, tK_sl, KS_sl, KL_sl, oK_sl, intK_sl, raiK_sl]
  first | exact Y0.eV_bi2 | exact Y0.eV_bi2 _ _ | exact Y0.eV_bi2 _ _ _ | exact Y0.eV_bi2 _ _ _ _ | (apply Y0.eV_bi2 <;> assumption)
theorem eV_bi0 (hw : isWalk x = false) (hi : (x == "isinstance") = false) {Q : O → Env → Prop} : W (eV C (.bi x [] p q) s) Q X = OK (biD x []) fun o => Q o s := by
  try simp only [W_sl, FW_sl, OK_sl, BK_sl, gK_sl, aK_sl, vK_sl, pK_sl, qK_sl, mK_sl, tK_sl, KS_sl, KL_sl, oK_sl, intK_sl, raiK_sl]
  first | exact Y0.eV_bi0 | exact Y0.eV_bi0 _ _ | exact Y0.eV_bi0 _ _ _ | exact Y0.eV_bi0 _ _ _ _ | (apply Y0.eV_bi0 <;> assumption)
theorem eV_isi {t : Str} {Q : O → Env → Prop} {r : Pos} : W (eV C (.bi "isinstance" [a, .glb t r] p q) s) Q X = W (eA C a s) (fun y s1 => BK (C.cls t) (match y.getO s1 with
    | some (.exc c none) => C.cls c = true ∧ Q (.frz (.bl (C.sub c t))) s1
    | _ => False) (OK ((y.getO s1).bind frzO) fun d => OK (isiD d t) fun b => Q (.frz (.bl b)) s1)) X := by
  try simp only [W_sl, FW_sl, OK_sl, BK_sl, gK_sl, aK_sl, vK_sl, pK_sl, qK_sl, mK_sl, tK_sl, KS_sl, KL_sl, oK_sl, intK_sl, raiK_sl]
  first | exact Y0.eV_isi | exact Y0.eV_isi _ _ | exact Y0.eV_isi _ _ _ | exact Y0.eV_isi _ _ _ _ | (apply Y0.eV_isi <;> assumption)
theorem eI_range {Q : List D → Env → Prop} : W (eI C (.bi "range" es p q) s) Q X = W (eAs C es s) (fun y s1 => OK (gets s1 y) fun ds => OK (rngD ds) fun xs => Q xs s1) X := by
  try simp only [W_sl, FW_sl, OK_sl, BK_sl, gK_sl, aK_sl, vK_sl, pK_sl, qK_sl, mK_sl, tK_sl, KS_sl, KL_sl, oK_sl, intK_sl, raiK_sl]
  first | exact Y0.eI_range | exact Y0.eI_range _ _ | exact Y0.eI_range _ _ _ | exact Y0.eI_range _ _ _ _ | (apply Y0.eI_range <;> assumption)
theorem eI_zip {Q : List D → Env → Prop} : W (eI C (.bi "zip" es p q) s) Q X = W (eDs C es s) (fun ds s1 => OK (zipD ds) fun xs => Q xs s1) X := by
  try simp only [W_sl, FW_sl, OK_sl, BK_sl, gK_sl, aK_sl, vK_sl, pK_sl, qK_sl, mK_sl, tK_sl, KS_sl, KL_sl, oK_sl, intK_sl, raiK_sl]
  first | exact Y0.eI_zip | exact Y0.eI_zip _ _ | exact Y0.eI_zip _ _ _ | exact Y0.eI_zip _ _ _ _ | (apply Y0.eI_zip <;> assumption)
theorem eI_enum {Q : List D → Env → Prop} : W (eI C (.bi "enumerate" es p q) s) Q X = W (eDs C es s) (fun ds s1 => OK (enuD ds) fun xs => Q xs s1) X := by
  try simp only [W_sl, FW_sl, OK_sl, BK_sl, gK_sl, aK_sl, vK_sl, pK_sl, qK_sl, mK_sl, tK_sl, KS_sl, KL_sl, oK_sl, intK_sl, raiK_sl]
  first | exact Y0.eI_enum | exact Y0.eI_enum _ _ | exact Y0.eI_enum _ _ _ | exact Y0.eI_enum _ _ _ _ | (apply Y0.eI_enum <;> assumption)
theorem eI_rev {Q : List D → Env → Prop} : W (eI C (.bi "reversed" es p q) s) Q X = W (eDs C es s) (fun ds s1 => OK (rvsD ds) fun xs => Q xs s1) X := by
  try simp only [W_sl, FW_sl, OK_sl, BK_sl, gK_sl, aK_sl, vK_sl, pK_sl, qK_sl, mK_sl, tK_sl, KS_sl, KL_sl, oK_sl, intK_sl, raiK_sl]
  first | exact Y0.eI_rev | exact Y0.eI_rev _ _ | exact Y0.eI_rev _ _ _ | exact Y0.eI_rev _ _ _ _ | (apply Y0.eI_rev <;> assumption)
theorem eV_plain (hs : (m == "items" || m == "values") = false) (hm : isMut m = false) (hp : isPl m = true) {Q : O → Env → Prop} : W (eV C (.meth a m es p q) s) Q X = W (eA C a s) (fun x s1 => aK x s1 fun u0 => kindM m u0 = true ∧
    W (eAs C es s1) (fun as s2 => aK x s2 fun u => OK (gets s2 as) fun ds => OK (methD m u ds) fun o => Q o s2) X) X := by
  try simp only [W_sl, FW_sl, OK_sl, BK_sl, gK_sl, aK_sl, vK_sl, pK_sl, qK_sl, mK_sl, tK_sl, KS_sl, KL_sl, oK_sl, intK_sl, raiK_sl]
  first | exact Y0.eV_plain | exact Y0.eV_plain _ _ | exact Y0.eV_plain _ _ _ | exact Y0.eV_plain _ _ _ _ | (apply Y0.eV_plain <;> assumption)
theorem mK_lst (xs : List D) (K : List D → Prop) : mK (some (.lst xs)) K = K xs := by
  try simp only [W_sl, FW_sl, OK_sl, BK_sl, gK_sl, aK_sl, vK_sl, pK_sl, qK_sl, mK_sl, tK_sl, KS_sl, KL_sl, oK_sl, intK_sl, raiK_sl]
  first | exact Y0.mK_lst | exact Y0.mK_lst _ _ | exact Y0.mK_lst _ _ _ | exact Y0.mK_lst _ _ _ _ | (apply Y0.mK_lst <;> assumption)
theorem eV_mut (hs : (m == "items" || m == "values") = false) (hm : isMut m = true) {Q : O → Env → Prop} : W (eV C (.meth (.var i x r) m es p q) s) Q X = mK (getO s i) fun _ =>
    W (eDs C es s) (fun ds s1 => OK (getO s1 i) fun u => OK (mutD m u ds) fun y => Q (.frz y.2) (s1.set i (some y.1))) X := by
  try simp only [W_sl, FW_sl, OK_sl, BK_sl, gK_sl, aK_sl, vK_sl, pK_sl, qK_sl, mK_sl, tK_sl, KS_sl, KL_sl, oK_sl, intK_sl, raiK_sl]
  first | exact Y0.eV_mut | exact Y0.eV_mut _ _ | exact Y0.eV_mut _ _ _ | exact Y0.eV_mut _ _ _ _ | (apply Y0.eV_mut <;> assumption)
theorem eV_sub {Q : O → Env → Prop} : W (eV C (.sub a b p) s) Q X = W (eA C a s) (fun x s1 => W (eA C b s1) (fun y s2 => aK x s2 fun u => aK y s2 fun v => OK (subD u v) fun d => Q (.frz d) s2) X) X := by
  try simp only [W_sl, FW_sl, OK_sl, BK_sl, gK_sl, aK_sl, vK_sl, pK_sl, qK_sl, mK_sl, tK_sl, KS_sl, KL_sl, oK_sl, intK_sl, raiK_sl]
  first | exact Y0.eV_sub | exact Y0.eV_sub _ _ | exact Y0.eV_sub _ _ _ | exact Y0.eV_sub _ _ _ _ | (apply Y0.eV_sub <;> assumption)
theorem oK_none {K : Option Int → Env → Prop} : oK C none s K X = K none s := by
  try simp only [W_sl, FW_sl, OK_sl, BK_sl, gK_sl, aK_sl, vK_sl, pK_sl, qK_sl, mK_sl, tK_sl, KS_sl, KL_sl, oK_sl, intK_sl, raiK_sl]
  first | exact Y0.oK_none | exact Y0.oK_none _ _ | exact Y0.oK_none _ _ _ | exact Y0.oK_none _ _ _ _ | (apply Y0.oK_none <;> assumption)
theorem intK_int (i : Int) (K : Int → Prop) : intK (.int i) K = K i := by
  try simp only [W_sl, FW_sl, OK_sl, BK_sl, gK_sl, aK_sl, vK_sl, pK_sl, qK_sl, mK_sl, tK_sl, KS_sl, KL_sl, oK_sl, intK_sl, raiK_sl]
  first | exact Y0.intK_int | exact Y0.intK_int _ _ | exact Y0.intK_int _ _ _ | exact Y0.intK_int _ _ _ _ | (apply Y0.intK_int <;> assumption)
theorem oK_some {K : Option Int → Env → Prop} : oK C (some e) s K X = W (eA C e s) (fun x s1 => aK x s1 fun d => intK d fun i => K (some i) s1) X := by
  try simp only [W_sl, FW_sl, OK_sl, BK_sl, gK_sl, aK_sl, vK_sl, pK_sl, qK_sl, mK_sl, tK_sl, KS_sl, KL_sl, oK_sl, intK_sl, raiK_sl]
  first | exact Y0.oK_some | exact Y0.oK_some _ _ | exact Y0.oK_some _ _ _ | exact Y0.oK_some _ _ _ _ | (apply Y0.oK_some <;> assumption)
theorem oM_W {o : Option E} {Q : Option Int → Env → Prop} : W (oM (denO C o) s) Q X = oK C o s Q X := by
  try simp only [W_sl, FW_sl, OK_sl, BK_sl, gK_sl, aK_sl, vK_sl, pK_sl, qK_sl, mK_sl, tK_sl, KS_sl, KL_sl, oK_sl, intK_sl, raiK_sl]
  first | exact Y0.oM_W | exact Y0.oM_W _ _ | exact Y0.oM_W _ _ _ | exact Y0.oM_W _ _ _ _ | (apply Y0.oM_W <;> assumption)
theorem eV_slc {lo hi : Option E} {Q : O → Env → Prop} : W (eV C (.slc a lo hi none p q) s) Q X = W (eA C a s) (fun x s1 => oK C lo s1 (fun l s2 => oK C hi s2 (fun h s3 => aK x s3 fun u => OK (slcD u l h) fun o => Q o s3) X) X) X := by
  try simp only [W_sl, FW_sl, OK_sl, BK_sl, gK_sl, aK_sl, vK_sl, pK_sl, qK_sl, mK_sl, tK_sl, KS_sl, KL_sl, oK_sl, intK_sl, raiK_sl]
  first | exact Y0.eV_slc | exact Y0.eV_slc _ _ | exact Y0.eV_slc _ _ _ | exact Y0.eV_slc _ _ _ _ | (apply Y0.eV_slc <;> assumption)
theorem eV_rev {p1 p2 : Pos} {k : Nat} {Q : O → Env → Prop} : W (eV C (.slc a none none (some (.neg (.int 1 k p1) p2)) p q) s) Q X = W (eA C a s) (fun x s1 => aK x s1 fun u => OK (revD u) fun o => Q o s1) X := by
  try simp only [W_sl, FW_sl, OK_sl, BK_sl, gK_sl, aK_sl, vK_sl, pK_sl, qK_sl, mK_sl, tK_sl, KS_sl, KL_sl, oK_sl, intK_sl, raiK_sl]
  first | exact Y0.eV_rev | exact Y0.eV_rev _ _ | exact Y0.eV_rev _ _ _ | exact Y0.eV_rev _ _ _ _ | (apply Y0.eV_rev <;> assumption)
theorem eV_lst {Q : O → Env → Prop} : W (eV C (.lst es p) s) Q X = W (eSp C es s) (fun ds s1 => Q (.lst ds) s1) X := by
  try simp only [W_sl, FW_sl, OK_sl, BK_sl, gK_sl, aK_sl, vK_sl, pK_sl, qK_sl, mK_sl, tK_sl, KS_sl, KL_sl, oK_sl, intK_sl, raiK_sl]
  first | exact Y0.eV_lst | exact Y0.eV_lst _ _ | exact Y0.eV_lst _ _ _ | exact Y0.eV_lst _ _ _ _ | (apply Y0.eV_lst <;> assumption)
theorem eV_tup {k : Nat} {Q : O → Env → Prop} : W (eV C (.tup es k p) s) Q X = W (eSp C es s) (fun ds s1 => Q (.frz (.tup ds)) s1) X := by
  try simp only [W_sl, FW_sl, OK_sl, BK_sl, gK_sl, aK_sl, vK_sl, pK_sl, qK_sl, mK_sl, tK_sl, KS_sl, KL_sl, oK_sl, intK_sl, raiK_sl]
  first | exact Y0.eV_tup | exact Y0.eV_tup _ _ | exact Y0.eV_tup _ _ _ | exact Y0.eV_tup _ _ _ _ | (apply Y0.eV_tup <;> assumption)
theorem eG_var {o : O} {Q : Unit → Env → Prop} : W (eG C (.var i x p) o s) Q X = (i < s.length ∧ Q () (s.set i (some o))) := by
  try simp only [W_sl, FW_sl, OK_sl, BK_sl, gK_sl, aK_sl, vK_sl, pK_sl, qK_sl, mK_sl, tK_sl, KS_sl, KL_sl, oK_sl, intK_sl, raiK_sl]
  first | exact Y0.eG_var | exact Y0.eG_var _ _ | exact Y0.eG_var _ _ _ | exact Y0.eG_var _ _ _ _ | (apply Y0.eG_var <;> assumption)
theorem eGs_nil {Q : Unit → Env → Prop} : W (eGs C [] [] s) Q X = Q () s := by
  try simp only [W_sl, FW_sl, OK_sl, BK_sl, gK_sl, aK_sl, vK_sl, pK_sl, qK_sl, mK_sl, tK_sl, KS_sl, KL_sl, oK_sl, intK_sl, raiK_sl]
  first | exact Y0.eGs_nil | exact Y0.eGs_nil _ _ | exact Y0.eGs_nil _ _ _ | exact Y0.eGs_nil _ _ _ _ | (apply Y0.eGs_nil <;> assumption)
theorem eGs_cons {d : D} {ds : List D} {Q : Unit → Env → Prop} : W (eGs C (a :: es) (d :: ds) s) Q X = W (eG C a (.frz d) s) (fun _ s1 => W (eGs C es ds s1) Q X) X := by
  try simp only [W_sl, FW_sl, OK_sl, BK_sl, gK_sl, aK_sl, vK_sl, pK_sl, qK_sl, mK_sl, tK_sl, KS_sl, KL_sl, oK_sl, intK_sl, raiK_sl]
  first | exact Y0.eGs_cons | exact Y0.eGs_cons _ _ | exact Y0.eGs_cons _ _ _ | exact Y0.eGs_cons _ _ _ _ | (apply Y0.eGs_cons <;> assumption)
theorem tK_tup (xs : List D) (n : Nat) (K : List D → Prop) : tK (.frz (.tup xs)) n K = (n = xs.length ∧ K xs) := by
  try simp only [W_sl, FW_sl, OK_sl, BK_sl, gK_sl, aK_sl, vK_sl, pK_sl, qK_sl, mK_sl, tK_sl, KS_sl, KL_sl, oK_sl, intK_sl, raiK_sl]
  first | exact Y0.tK_tup | exact Y0.tK_tup _ _ | exact Y0.tK_tup _ _ _ | exact Y0.tK_tup _ _ _ _ | (apply Y0.tK_tup <;> assumption)
theorem eG_tup {k : Nat} {o : O} {Q : Unit → Env → Prop} : W (eG C (.tup es k p) o s) Q X = tK o es.length fun ds => W (eGs C es ds s) Q X := by
  try simp only [W_sl, FW_sl, OK_sl, BK_sl, gK_sl, aK_sl, vK_sl, pK_sl, qK_sl, mK_sl, tK_sl, KS_sl, KL_sl, oK_sl, intK_sl, raiK_sl]
  first | exact Y0.eG_tup | exact Y0.eG_tup _ _ | exact Y0.eG_tup _ _ _ | exact Y0.eG_tup _ _ _ _ | (apply Y0.eG_tup <;> assumption)
theorem eG_sub {o : O} {Q : Unit → Env → Prop} {r : Pos} : W (eG C (.sub (.var i x r) b p) o s) Q X = OK (frzO o) fun d => W (eA C b s) (fun y s1 => aK y s1 fun k => OK (getO s1 i) fun u => OK (setIn u k d) fun u' => Q () (s1.set i (some u'))) X := by
  try simp only [W_sl, FW_sl, OK_sl, BK_sl, gK_sl, aK_sl, vK_sl, pK_sl, qK_sl, mK_sl, tK_sl, KS_sl, KL_sl, oK_sl, intK_sl, raiK_sl]
  first | exact Y0.eG_sub | exact Y0.eG_sub _ _ | exact Y0.eG_sub _ _ _ | exact Y0.eG_sub _ _ _ _ | (apply Y0.eG_sub <;> assumption)
variable {t : S} {ss ta tb : List S}
theorem xSs_nil {Q : SR → Env → Prop} : W (xSs C [] s) Q X = Q .nx s := by
  try simp only [W_sl, FW_sl, OK_sl, BK_sl, gK_sl, aK_sl, vK_sl, pK_sl, qK_sl, mK_sl, tK_sl, KS_sl, KL_sl, oK_sl, intK_sl, raiK_sl]
  first | exact Y0.xSs_nil | exact Y0.xSs_nil _ _ | exact Y0.xSs_nil _ _ _ | exact Y0.xSs_nil _ _ _ _ | (apply Y0.xSs_nil <;> assumption)
theorem xSs_cons {Q : SR → Env → Prop} : W (xSs C (t :: ss) s) Q X = W (xS C t s) (fun r s1 => KS r s1 (fun s2 => W (xSs C ss s2) Q X) Q) X := by
  try simp only [W_sl, FW_sl, OK_sl, BK_sl, gK_sl, aK_sl, vK_sl, pK_sl, qK_sl, mK_sl, tK_sl, KS_sl, KL_sl, oK_sl, intK_sl, raiK_sl]
  first | exact Y0.xSs_cons | exact Y0.xSs_cons _ _ | exact Y0.xSs_cons _ _ _ | exact Y0.xSs_cons _ _ _ _ | (apply Y0.xSs_cons <;> assumption)
theorem xS_asg (h : isTup2 a e = false) {Q : SR → Env → Prop} : W (xS C (.asg a e p) s) Q X = W (eV C e s) (fun o s1 => W (eG C a o s1) (fun _ s2 => Q .nx s2) X) X := by
  try simp only [W_sl, FW_sl, OK_sl, BK_sl, gK_sl, aK_sl, vK_sl, pK_sl, qK_sl, mK_sl, tK_sl, KS_sl, KL_sl, oK_sl, intK_sl, raiK_sl]
  first | exact Y0.xS_asg | exact Y0.xS_asg _ _ | exact Y0.xS_asg _ _ _ | exact Y0.xS_asg _ _ _ _ | (apply Y0.xS_asg <;> assumption)
theorem eVs_nil {Q : List O → Env → Prop} : W (eVs C [] s) Q X = Q [] s := by
  try simp only [W_sl, FW_sl, OK_sl, BK_sl, gK_sl, aK_sl, vK_sl, pK_sl, qK_sl, mK_sl, tK_sl, KS_sl, KL_sl, oK_sl, intK_sl, raiK_sl]
  first | exact Y0.eVs_nil | exact Y0.eVs_nil _ _ | exact Y0.eVs_nil _ _ _ | exact Y0.eVs_nil _ _ _ _ | (apply Y0.eVs_nil <;> assumption)
theorem eVs_cons (h : isStar a = false) {Q : List O → Env → Prop} : W (eVs C (a :: es) s) Q X = W (eV C a s) (fun x s1 => W (eVs C es s1) (fun xs s2 => Q (x :: xs) s2) X) X := by
  try simp only [W_sl, FW_sl, OK_sl, BK_sl, gK_sl, aK_sl, vK_sl, pK_sl, qK_sl, mK_sl, tK_sl, KS_sl, KL_sl, oK_sl, intK_sl, raiK_sl]
  first | exact Y0.eVs_cons | exact Y0.eVs_cons _ _ | exact Y0.eVs_cons _ _ _ | exact Y0.eVs_cons _ _ _ _ | (apply Y0.eVs_cons <;> assumption)
theorem eGo_nil {Q : Unit → Env → Prop} : W (eGo C [] [] s) Q X = Q () s := by
  try simp only [W_sl, FW_sl, OK_sl, BK_sl, gK_sl, aK_sl, vK_sl, pK_sl, qK_sl, mK_sl, tK_sl, KS_sl, KL_sl, oK_sl, intK_sl, raiK_sl]
  first | exact Y0.eGo_nil | exact Y0.eGo_nil _ _ | exact Y0.eGo_nil _ _ _ | exact Y0.eGo_nil _ _ _ _ | (apply Y0.eGo_nil <;> assumption)
theorem eGo_cons {d : O} {ds : List O} {Q : Unit → Env → Prop} : W (eGo C (a :: es) (d :: ds) s) Q X = W (eG C a d s) (fun _ s1 => W (eGo C es ds s1) Q X) X := by
  try simp only [W_sl, FW_sl, OK_sl, BK_sl, gK_sl, aK_sl, vK_sl, pK_sl, qK_sl, mK_sl, tK_sl, KS_sl, KL_sl, oK_sl, intK_sl, raiK_sl]
  first | exact Y0.eGo_cons | exact Y0.eGo_cons _ _ | exact Y0.eGo_cons _ _ _ | exact Y0.eGo_cons _ _ _ _ | (apply Y0.eGo_cons <;> assumption)
theorem xS_asg2 {ts : List E} {k k2 : Nat} {p1 p2 : Pos} (h : (ts.length == es.length) = true) {Q : SR → Env → Prop} : W (xS C (.asg (.tup ts k p1) (.tup es k2 p2) p) s) Q X = W (eVs C es s) (fun os s1 => W (eGo C ts os s1) (fun _ s2 => Q .nx s2) X) X := by
  try simp only [W_sl, FW_sl, OK_sl, BK_sl, gK_sl, aK_sl, vK_sl, pK_sl, qK_sl, mK_sl, tK_sl, KS_sl, KL_sl, oK_sl, intK_sl, raiK_sl]
  first | exact Y0.xS_asg2 | exact Y0.xS_asg2 _ _ | exact Y0.xS_asg2 _ _ _ | exact Y0.xS_asg2 _ _ _ _ | (apply Y0.xS_asg2 <;> assumption)
theorem xS_retv {Q : SR → Env → Prop} : W (xS C (.ret (.var i x p) q) s) Q X = OK (getO s i) fun o => Q (.rt o) (s.set i none) := by
  try simp only [W_sl, FW_sl, OK_sl, BK_sl, gK_sl, aK_sl, vK_sl, pK_sl, qK_sl, mK_sl, tK_sl, KS_sl, KL_sl, oK_sl, intK_sl, raiK_sl]
  first | exact Y0.xS_retv | exact Y0.xS_retv _ _ | exact Y0.xS_retv _ _ _ | exact Y0.xS_retv _ _ _ _ | (apply Y0.xS_retv <;> assumption)
theorem xS_ret (h : isV e = false) (hs : isStar e = false) {Q : SR → Env → Prop} : W (xS C (.ret e p) s) Q X = W (eV C e s) (fun o s1 => Q (.rt o) s1) X := by
  try simp only [W_sl, FW_sl, OK_sl, BK_sl, gK_sl, aK_sl, vK_sl, pK_sl, qK_sl, mK_sl, tK_sl, KS_sl, KL_sl, oK_sl, intK_sl, raiK_sl]
  first | exact Y0.xS_ret | exact Y0.xS_ret _ _ | exact Y0.xS_ret _ _ _ | exact Y0.xS_ret _ _ _ _ | (apply Y0.xS_ret <;> assumption)
theorem xS_retn {Q : SR → Env → Prop} : W (xS C (.retn p) s) Q X = Q (.rt (.frz .non)) s := by
  try simp only [W_sl, FW_sl, OK_sl, BK_sl, gK_sl, aK_sl, vK_sl, pK_sl, qK_sl, mK_sl, tK_sl, KS_sl, KL_sl, oK_sl, intK_sl, raiK_sl]
  first | exact Y0.xS_retn | exact Y0.xS_retn _ _ | exact Y0.xS_retn _ _ _ | exact Y0.xS_retn _ _ _ _ | (apply Y0.xS_retn <;> assumption)
theorem xS_ifs {Q : SR → Env → Prop} : W (xS C (.ifs e ta tb p) s) Q X = W (eT C e s) (fun t s1 => BK t (W (xSs C ta s1) Q X) (W (xSs C tb s1) Q X)) X := by
  try simp only [W_sl, FW_sl, OK_sl, BK_sl, gK_sl, aK_sl, vK_sl, pK_sl, qK_sl, mK_sl, tK_sl, KS_sl, KL_sl, oK_sl, intK_sl, raiK_sl]
  first | exact Y0.xS_ifs | exact Y0.xS_ifs _ _ | exact Y0.xS_ifs _ _ _ | exact Y0.xS_ifs _ _ _ _ | (apply Y0.xS_ifs <;> assumption)
theorem xS_for {Q : SR → Env → Prop} : W (xS C (.fors a e ta p) s) Q X = W (eI C e s) (fun xs s1 => W (forR C a ta xs s1) Q X) X := by
  try simp only [W_sl, FW_sl, OK_sl, BK_sl, gK_sl, aK_sl, vK_sl, pK_sl, qK_sl, mK_sl, tK_sl, KS_sl, KL_sl, oK_sl, intK_sl, raiK_sl]
  first | exact Y0.xS_for | exact Y0.xS_for _ _ | exact Y0.xS_for _ _ _ | exact Y0.xS_for _ _ _ _ | (apply Y0.xS_for <;> assumption)
theorem forR_nil {Q : SR → Env → Prop} : W (forR C a ta [] s) Q X = Q .nx s := by
  try simp only [W_sl, FW_sl, OK_sl, BK_sl, gK_sl, aK_sl, vK_sl, pK_sl, qK_sl, mK_sl, tK_sl, KS_sl, KL_sl, oK_sl, intK_sl, raiK_sl]
  first | exact Y0.forR_nil | exact Y0.forR_nil _ _ | exact Y0.forR_nil _ _ _ | exact Y0.forR_nil _ _ _ _ | (apply Y0.forR_nil <;> assumption)
theorem forR_cons {d : D} {ds : List D} {Q : SR → Env → Prop} : W (forR C a ta (d :: ds) s) Q X = W (eG C a (.frz d) s) (fun _ s1 => W (xSs C ta s1) (fun r s2 => KL r s2 (fun s3 => W (forR C a ta ds s3) Q X) Q) X) X := by
  try simp only [W_sl, FW_sl, OK_sl, BK_sl, gK_sl, aK_sl, vK_sl, pK_sl, qK_sl, mK_sl, tK_sl, KS_sl, KL_sl, oK_sl, intK_sl, raiK_sl]
  first | exact Y0.forR_cons | exact Y0.forR_cons _ _ | exact Y0.forR_cons _ _ _ | exact Y0.forR_cons _ _ _ _ | (apply Y0.forR_cons <;> assumption)
theorem xS_brk {Q : SR → Env → Prop} : W (xS C (.brk p) s) Q X = Q .bk s := by
  try simp only [W_sl, FW_sl, OK_sl, BK_sl, gK_sl, aK_sl, vK_sl, pK_sl, qK_sl, mK_sl, tK_sl, KS_sl, KL_sl, oK_sl, intK_sl, raiK_sl]
  first | exact Y0.xS_brk | exact Y0.xS_brk _ _ | exact Y0.xS_brk _ _ _ | exact Y0.xS_brk _ _ _ _ | (apply Y0.xS_brk <;> assumption)
theorem xS_cnt {Q : SR → Env → Prop} : W (xS C (.cnt p) s) Q X = Q .ct s := by
  try simp only [W_sl, FW_sl, OK_sl, BK_sl, gK_sl, aK_sl, vK_sl, pK_sl, qK_sl, mK_sl, tK_sl, KS_sl, KL_sl, oK_sl, intK_sl, raiK_sl]
  first | exact Y0.xS_cnt | exact Y0.xS_cnt _ _ | exact Y0.xS_cnt _ _ _ | exact Y0.xS_cnt _ _ _ _ | (apply Y0.xS_cnt <;> assumption)
theorem xS_pas {Q : SR → Env → Prop} : W (xS C (.pas p) s) Q X = Q .nx s := by
  try simp only [W_sl, FW_sl, OK_sl, BK_sl, gK_sl, aK_sl, vK_sl, pK_sl, qK_sl, mK_sl, tK_sl, KS_sl, KL_sl, oK_sl, intK_sl, raiK_sl]
  first | exact Y0.xS_pas | exact Y0.xS_pas _ _ | exact Y0.xS_pas _ _ _ | exact Y0.xS_pas _ _ _ _ | (apply Y0.xS_pas <;> assumption)
theorem xS_expr {Q : SR → Env → Prop} : W (xS C (.expr e p) s) Q X = W (eV C e s) (fun _ s1 => Q .nx s1) X := by
  try simp only [W_sl, FW_sl, OK_sl, BK_sl, gK_sl, aK_sl, vK_sl, pK_sl, qK_sl, mK_sl, tK_sl, KS_sl, KL_sl, oK_sl, intK_sl, raiK_sl]
  first | exact Y0.xS_expr | exact Y0.xS_expr _ _ | exact Y0.xS_expr _ _ _ | exact Y0.xS_expr _ _ _ _ | (apply Y0.xS_expr <;> assumption)
theorem xS_rais {Q : SR → Env → Prop} : W (xS C (.rais x es p q r) s) Q X = W (eDs C es s) (fun ds s1 => raiK C x ds fun e => X e s1) X := by
  try simp only [W_sl, FW_sl, OK_sl, BK_sl, gK_sl, aK_sl, vK_sl, pK_sl, qK_sl, mK_sl, tK_sl, KS_sl, KL_sl, oK_sl, intK_sl, raiK_sl]
  first | exact Y0.xS_rais | exact Y0.xS_rais _ _ | exact Y0.xS_rais _ _ _ | exact Y0.xS_rais _ _ _ _ | (apply Y0.xS_rais <;> assumption)
theorem raiK_str {z : Str} {K : Ex → Prop} (h : C.fld x = none) : raiK C x [.str z] K = K ⟨x, none⟩ := by
  try simp only [W_sl, FW_sl, OK_sl, BK_sl, gK_sl, aK_sl, vK_sl, pK_sl, qK_sl, mK_sl, tK_sl, KS_sl, KL_sl, oK_sl, intK_sl, raiK_sl]
  first | exact Y0.raiK_str | exact Y0.raiK_str _ _ | exact Y0.raiK_str _ _ _ | exact Y0.raiK_str _ _ _ _ | (apply Y0.raiK_str <;> assumption)
theorem raiK_int {z : Int} {f : Str} {K : Ex → Prop} (h : C.fld x = some f) : raiK C x [.int z] K = K ⟨x, some (f, z)⟩ := by
  try simp only [W_sl, FW_sl, OK_sl, BK_sl, gK_sl, aK_sl, vK_sl, pK_sl, qK_sl, mK_sl, tK_sl, KS_sl, KL_sl, oK_sl, intK_sl, raiK_sl]
  first | exact Y0.raiK_int | exact Y0.raiK_int _ _ | exact Y0.raiK_int _ _ _ | exact Y0.raiK_int _ _ _ _ | (apply Y0.raiK_int <;> assumption)
theorem xS_try {n : Option (Nat × Str)} {Q : SR → Env → Prop} : W (xS C (.tryx ta x p n tb q r) s) Q X = W (xSs C ta s) Q (fun e s1 => C.cls e.c = true ∧
    BK (C.sub e.c x) (noExc s1 = true ∧ (match n with
      | none => W (xSs C tb s1) (fun r s2 => (noExc s2 && noExcR r) = true ∧ Q r s2) (fun _ _ => False)
      | some i => i.1 < s1.length ∧ W (xSs C tb (s1.set i.1 (some (.exc e.c e.arg)))) (fun r s2 => (noExc (s2.set i.1 none) && noExcR r) = true ∧ Q r (s2.set i.1 none)) (fun _ _ => False))) (X e s1)) := by
  try simp only [W_sl, FW_sl, OK_sl, BK_sl, gK_sl, aK_sl, vK_sl, pK_sl, qK_sl, mK_sl, tK_sl, KS_sl, KL_sl, oK_sl, intK_sl, raiK_sl]
  first | exact Y0.xS_try | exact Y0.xS_try _ _ | exact Y0.xS_try _ _ _ | exact Y0.xS_try _ _ _ _ | (apply Y0.xS_try <;> assumption)
theorem eIfs_nil {Q : Bool → Env → Prop} : W (eIfs C [] s) Q X = Q true s := by
  try simp only [W_sl, FW_sl, OK_sl, BK_sl, gK_sl, aK_sl, vK_sl, pK_sl, qK_sl, mK_sl, tK_sl, KS_sl, KL_sl, oK_sl, intK_sl, raiK_sl]
  first | exact Y0.eIfs_nil | exact Y0.eIfs_nil _ _ | exact Y0.eIfs_nil _ _ _ | exact Y0.eIfs_nil _ _ _ _ | (apply Y0.eIfs_nil <;> assumption)
theorem eIfs_cons {Q : Bool → Env → Prop} : W (eIfs C (a :: es) s) Q X = W (eT C a s) (fun t s1 => BK t (W (eIfs C es s1) Q X) (Q false s1)) X := by
  try simp only [W_sl, FW_sl, OK_sl, BK_sl, gK_sl, aK_sl, vK_sl, pK_sl, qK_sl, mK_sl, tK_sl, KS_sl, KL_sl, oK_sl, intK_sl, raiK_sl]
  first | exact Y0.eIfs_cons | exact Y0.eIfs_cons _ _ | exact Y0.eIfs_cons _ _ _ | exact Y0.eIfs_cons _ _ _ _ | (apply Y0.eIfs_cons <;> assumption)
variable {own : List Nat} {tg it : E} {sc : Scope}
theorem blkM_W {α : Type} {m : M α} {Q : α → Env → Prop} : W (blkM own m s) Q X = W (m s) (fun a s1 => Q a (backE own s s1)) (fun _ _ => False) := by
  try simp only [W_sl, FW_sl, OK_sl, BK_sl, gK_sl, aK_sl, vK_sl, pK_sl, qK_sl, mK_sl, tK_sl, KS_sl, KL_sl, oK_sl, intK_sl, raiK_sl]
  first | exact Y0.blkM_W | exact Y0.blkM_W _ _ | exact Y0.blkM_W _ _ _ | exact Y0.blkM_W _ _ _ _ | (apply Y0.blkM_W <;> assumption)
theorem eV_lc {Q : O → Env → Prop} : W (eV C (.lc e tg it es own sc p) s) Q X = W (eI C it s) (fun xs s1 => xs.length ≤ LIM ∧ W (lcR C own e tg es xs [] s1) (fun o s2 => Q o (backE own s1 s2)) (fun _ _ => False)) X := by
  try simp only [W_sl, FW_sl, OK_sl, BK_sl, gK_sl, aK_sl, vK_sl, pK_sl, qK_sl, mK_sl, tK_sl, KS_sl, KL_sl, oK_sl, intK_sl, raiK_sl]
  first | exact Y0.eV_lc | exact Y0.eV_lc _ _ | exact Y0.eV_lc _ _ _ | exact Y0.eV_lc _ _ _ _ | (apply Y0.eV_lc <;> assumption)
theorem lcR_nil {acc : List D} {Q : O → Env → Prop} : W (lcR C own e tg es [] acc s) Q X = Q (.lst acc) (wipeE own s) := by
  try simp only [W_sl, FW_sl, OK_sl, BK_sl, gK_sl, aK_sl, vK_sl, pK_sl, qK_sl, mK_sl, tK_sl, KS_sl, KL_sl, oK_sl, intK_sl, raiK_sl]
  first | exact Y0.lcR_nil | exact Y0.lcR_nil _ _ | exact Y0.lcR_nil _ _ _ | exact Y0.lcR_nil _ _ _ _ | (apply Y0.lcR_nil <;> assumption)
theorem lcR_cons {d : D} {ds acc : List D} {Q : O → Env → Prop} : W (lcR C own e tg es (d :: ds) acc s) Q X = W (eG C tg (.frz d) (wipeE own s)) (fun _ s1 => W (eIfs C es s1) (fun t s2 =>
    BK t (W (eD C e s2) (fun y s3 => W (lcR C own e tg es ds (acc ++ [y]) s3) Q X) X) (W (lcR C own e tg es ds acc s2) Q X)) X) X := by
  try simp only [W_sl, FW_sl, OK_sl, BK_sl, gK_sl, aK_sl, vK_sl, pK_sl, qK_sl, mK_sl, tK_sl, KS_sl, KL_sl, oK_sl, intK_sl, raiK_sl]
  first | exact Y0.lcR_cons | exact Y0.lcR_cons _ _ | exact Y0.lcR_cons _ _ _ | exact Y0.lcR_cons _ _ _ _ | (apply Y0.lcR_cons <;> assumption)
end
theorem FW_mono {r : FR} {Q Q' : O → List O → Prop} {X X' : Ex → List O → Prop} (h : FW r Q X) (hq : ∀ a s, Q a s → Q' a s) (hx : ∀ a s, X a s → X' a s) : FW r Q' X' := by
  simp only [FW_sl] at h ⊢
  exact Y0.FW_mono h hq hx
theorem W_mono {r : R α} {Q Q' : α → Env → Prop} {X X' : Ex → Env → Prop} (h : W r Q X) (hq : ∀ a s, Q a s → Q' a s) (hx : ∀ a s, X a s → X' a s) : W r Q' X' := by
  simp only [W_sl] at h ⊢
  exact Y0.W_mono h hq hx
end Z.Y
end

section
set_option Elab.async false
set_option linter.all false
set_option maxRecDepth 100000
set_option maxHeartbeats 1000000
/-! ZWs: values for simp: what operations on data give. -/
namespace Z.Y
open PySem
open Z.Y0 (eV eA eT eI eW eD eG eAs eDs eSp eTs eAnd eOr eCs eArg eIfs xSs xS lcR forR eGs eVs eGo isMk isTs isV isStar negD zipD enuD rvsD)
theorem ofString_inj {a b : String} (h : Str.ofString a = Str.ofString b) : a = b := by
  rw [Str.ofString_eq_toList, Str.ofString_eq_toList] at h
  injection h with h
  have h2 : a.toList.map Char.toNat = b.toList.map Char.toNat := by
    have := congrArg Array.toList h
    simpa using this
  have inj : ∀ xs ys : List Char, xs.map Char.toNat = ys.map Char.toNat → xs = ys := by
    intro xs
    induction xs with
    | nil => intro ys e; cases ys with | nil => rfl | cons _ _ => cases e
    | cons x xs ih =>
      intro ys e
      cases ys with
      | nil => cases e
      | cons y ys =>
        rw [List.map_cons, List.map_cons] at e
        injection e with e1 e2
        rw [ih ys e2, Char.toNat_inj.mp e1]
  have := inj _ _ h2
  exact String.toList_inj.mp this
theorem ofString_eq {a b : String} : (Str.ofString a = Str.ofString b) = (a = b) := propext ⟨ofString_inj, fun h => by rw [h]⟩
theorem ofString_beq {a b : String} : (Str.ofString a == Str.ofString b) = (a == b) := by
  by_cases h : a = b
  · subst h; simp
  · rw [beq_eq_false_iff_ne.mpr h, beq_eq_false_iff_ne.mpr (fun e => h (ofString_inj e))]

theorem isWalk_len : isWalk "len" = false := by decide +kernel
theorem isIsi_len : (("len" : Str) == "isinstance") = false := by decide +kernel
theorem isWalk_int : isWalk "int" = false := by decide +kernel
theorem isIsi_int : (("int" : Str) == "isinstance") = false := by decide +kernel
theorem isWalk_abs : isWalk "abs" = false := by decide +kernel
theorem isIsi_abs : (("abs" : Str) == "isinstance") = false := by decide +kernel
theorem isWalk_all : isWalk "all" = false := by decide +kernel
theorem isIsi_all : (("all" : Str) == "isinstance") = false := by decide +kernel
theorem isWalk_any : isWalk "any" = false := by decide +kernel
theorem isIsi_any : (("any" : Str) == "isinstance") = false := by decide +kernel
theorem isWalk_sum : isWalk "sum" = false := by decide +kernel
theorem isIsi_sum : (("sum" : Str) == "isinstance") = false := by decide +kernel
theorem isWalk_tuple : isWalk "tuple" = false := by decide +kernel
theorem isIsi_tuple : (("tuple" : Str) == "isinstance") = false := by decide +kernel
theorem isWalk_list : isWalk "list" = false := by decide +kernel
theorem isIsi_list : (("list" : Str) == "isinstance") = false := by decide +kernel
theorem isWalk_sorted : isWalk "sorted" = false := by decide +kernel
theorem isIsi_sorted : (("sorted" : Str) == "isinstance") = false := by decide +kernel
theorem isWalk_min : isWalk "min" = false := by decide +kernel
theorem isIsi_min : (("min" : Str) == "isinstance") = false := by decide +kernel
theorem isWalk_max : isWalk "max" = false := by decide +kernel
theorem isIsi_max : (("max" : Str) == "isinstance") = false := by decide +kernel
theorem isWalk_repr : isWalk "repr" = false := by decide +kernel
theorem isIsi_repr : (("repr" : Str) == "isinstance") = false := by decide +kernel
theorem isWalk_str : isWalk "str" = false := by decide +kernel
theorem isIsi_str : (("str" : Str) == "isinstance") = false := by decide +kernel
theorem isWalk_dict : isWalk "dict" = false := by decide +kernel
theorem isIsi_dict : (("dict" : Str) == "isinstance") = false := by decide +kernel
theorem isWalk_isinstance : isWalk "isinstance" = false := by decide +kernel
theorem isIsi_isinstance : (("isinstance" : Str) == "isinstance") = true := by decide +kernel
theorem biD_len (as : List D) : biD "len" as = bi_len as := by unfold biD; simp only [ofString_beq]; rfl
theorem biD_int (as : List D) : biD "int" as = bi_int as := by unfold biD; simp only [ofString_beq]; rfl
theorem biD_abs (as : List D) : biD "abs" as = bi_abs as := by unfold biD; simp only [ofString_beq]; rfl
theorem biD_all (as : List D) : biD "all" as = bi_all as := by unfold biD; simp only [ofString_beq]; rfl
theorem biD_any (as : List D) : biD "any" as = bi_any as := by unfold biD; simp only [ofString_beq]; rfl
theorem biD_sum (as : List D) : biD "sum" as = bi_sum as := by unfold biD; simp only [ofString_beq]; rfl
theorem biD_tuple (as : List D) : biD "tuple" as = bi_tuple as := by unfold biD; simp only [ofString_beq]; rfl
theorem biD_list (as : List D) : biD "list" as = bi_list as := by unfold biD; simp only [ofString_beq]; rfl
theorem biD_sorted (as : List D) : biD "sorted" as = bi_sorted as := by unfold biD; simp only [ofString_beq]; rfl
theorem biD_min (as : List D) : biD "min" as = bi_min as := by unfold biD; simp only [ofString_beq]; rfl
theorem biD_max (as : List D) : biD "max" as = bi_max as := by unfold biD; simp only [ofString_beq]; rfl
theorem biD_repr (as : List D) : biD "repr" as = bi_repr as := by unfold biD; simp only [ofString_beq]; rfl
theorem biD_str (as : List D) : biD "str" as = bi_str as := by unfold biD; simp only [ofString_beq]; rfl
theorem biD_dict (as : List D) : biD "dict" as = bi_dict as := by unfold biD; simp only [ofString_beq]; rfl
theorem isIv_index : (("index" : Str) == "items" || ("index" : Str) == "values") = false := by decide +kernel
theorem isMut_index : isMut "index" = false := by decide +kernel
theorem isIv_count : (("count" : Str) == "items" || ("count" : Str) == "values") = false := by decide +kernel
theorem isMut_count : isMut "count" = false := by decide +kernel
theorem isIv_get : (("get" : Str) == "items" || ("get" : Str) == "values") = false := by decide +kernel
theorem isMut_get : isMut "get" = false := by decide +kernel
theorem isIv_join : (("join" : Str) == "items" || ("join" : Str) == "values") = false := by decide +kernel
theorem isMut_join : isMut "join" = false := by decide +kernel
theorem isIv_split : (("split" : Str) == "items" || ("split" : Str) == "values") = false := by decide +kernel
theorem isMut_split : isMut "split" = false := by decide +kernel
theorem isIv_startswith : (("startswith" : Str) == "items" || ("startswith" : Str) == "values") = false := by decide +kernel
theorem isMut_startswith : isMut "startswith" = false := by decide +kernel
theorem isIv_endswith : (("endswith" : Str) == "items" || ("endswith" : Str) == "values") = false := by decide +kernel
theorem isMut_endswith : isMut "endswith" = false := by decide +kernel
theorem isIv_append : (("append" : Str) == "items" || ("append" : Str) == "values") = false := by decide +kernel
theorem isMut_append : isMut "append" = true := by decide +kernel
theorem isIv_extend : (("extend" : Str) == "items" || ("extend" : Str) == "values") = false := by decide +kernel
theorem isMut_extend : isMut "extend" = true := by decide +kernel
theorem isIv_reverse : (("reverse" : Str) == "items" || ("reverse" : Str) == "values") = false := by decide +kernel
theorem isMut_reverse : isMut "reverse" = true := by decide +kernel
theorem isIv_pop : (("pop" : Str) == "items" || ("pop" : Str) == "values") = false := by decide +kernel
theorem isMut_pop : isMut "pop" = true := by decide +kernel
theorem isIv_insert : (("insert" : Str) == "items" || ("insert" : Str) == "values") = false := by decide +kernel
theorem isMut_insert : isMut "insert" = true := by decide +kernel
theorem isPl_index : isPl "index" = true := by decide +kernel
theorem methD_index (o : D) (as : List D) : methD "index" o as = mt_index o as := by unfold methD; simp only [ofString_beq]; rfl
theorem kindM_index_lst (xs : List D) : kindM "index" (.lst xs) = true := by unfold kindM; exact (by decide +kernel : (methT "index" == "list") = true)
theorem kindM_index_str (xs : Str) : kindM "index" (.str xs) = false := by unfold kindM; exact (by decide +kernel : (methT "index" == "str") = false)
theorem isPl_count : isPl "count" = true := by decide +kernel
theorem methD_count (o : D) (as : List D) : methD "count" o as = mt_count o as := by unfold methD; simp only [ofString_beq]; rfl
theorem kindM_count_lst (xs : List D) : kindM "count" (.lst xs) = true := by unfold kindM; exact (by decide +kernel : (methT "count" == "list") = true)
theorem kindM_count_str (xs : Str) : kindM "count" (.str xs) = false := by unfold kindM; exact (by decide +kernel : (methT "count" == "str") = false)
theorem isPl_get : isPl "get" = true := by decide +kernel
theorem methD_get (o : D) (as : List D) : methD "get" o as = mt_get o as := by unfold methD; simp only [ofString_beq]; rfl
theorem kindM_get_lst (xs : List D) : kindM "get" (.lst xs) = false := by unfold kindM; exact (by decide +kernel : (methT "get" == "list") = false)
theorem kindM_get_str (xs : Str) : kindM "get" (.str xs) = false := by unfold kindM; exact (by decide +kernel : (methT "get" == "str") = false)
theorem isPl_join : isPl "join" = true := by decide +kernel
theorem methD_join (o : D) (as : List D) : methD "join" o as = mt_join o as := by unfold methD; simp only [ofString_beq]; rfl
theorem kindM_join_lst (xs : List D) : kindM "join" (.lst xs) = false := by unfold kindM; exact (by decide +kernel : (methT "join" == "list") = false)
theorem kindM_join_str (xs : Str) : kindM "join" (.str xs) = true := by unfold kindM; exact (by decide +kernel : (methT "join" == "str") = true)
theorem isPl_split : isPl "split" = true := by decide +kernel
theorem methD_split (o : D) (as : List D) : methD "split" o as = mt_split o as := by unfold methD; simp only [ofString_beq]; rfl
theorem kindM_split_lst (xs : List D) : kindM "split" (.lst xs) = false := by unfold kindM; exact (by decide +kernel : (methT "split" == "list") = false)
theorem kindM_split_str (xs : Str) : kindM "split" (.str xs) = true := by unfold kindM; exact (by decide +kernel : (methT "split" == "str") = true)
theorem isPl_startswith : isPl "startswith" = true := by decide +kernel
theorem methD_startswith (o : D) (as : List D) : methD "startswith" o as = mt_startswith o as := by unfold methD; simp only [ofString_beq]; rfl
theorem kindM_startswith_lst (xs : List D) : kindM "startswith" (.lst xs) = false := by unfold kindM; exact (by decide +kernel : (methT "startswith" == "list") = false)
theorem kindM_startswith_str (xs : Str) : kindM "startswith" (.str xs) = true := by unfold kindM; exact (by decide +kernel : (methT "startswith" == "str") = true)
theorem isPl_endswith : isPl "endswith" = true := by decide +kernel
theorem methD_endswith (o : D) (as : List D) : methD "endswith" o as = mt_endswith o as := by unfold methD; simp only [ofString_beq]; rfl
theorem kindM_endswith_lst (xs : List D) : kindM "endswith" (.lst xs) = false := by unfold kindM; exact (by decide +kernel : (methT "endswith" == "list") = false)
theorem kindM_endswith_str (xs : Str) : kindM "endswith" (.str xs) = true := by unfold kindM; exact (by decide +kernel : (methT "endswith" == "str") = true)
theorem mutD_append (o : O) (as : List D) : mutD "append" o as = mu_append o as := by unfold mutD; simp only [ofString_beq]; rfl
theorem mutD_extend (o : O) (as : List D) : mutD "extend" o as = mu_extend o as := by unfold mutD; simp only [ofString_beq]; rfl
theorem mutD_reverse (o : O) (as : List D) : mutD "reverse" o as = mu_reverse o as := by unfold mutD; simp only [ofString_beq]; rfl
theorem mutD_pop (o : O) (as : List D) : mutD "pop" o as = mu_pop o as := by unfold mutD; simp only [ofString_beq]; rfl
theorem mutD_insert (o : O) (as : List D) : mutD "insert" o as = mu_insert o as := by unfold mutD; simp only [ofString_beq]; rfl

section
variable {i j : Int} {x y z : Str} {xs ys : List D} {b c : Bool} {k : D}

theorem bi_len_tup : bi_len [.tup xs] = some (.frz (.int xs.length)) := rfl
theorem bi_len_lst : bi_len [.lst xs] = some (.frz (.int xs.length)) := rfl
theorem bi_len_str : bi_len [.str x] = some (.frz (.int x.length)) := rfl
theorem bi_int_int : bi_int [.int i] = some (.frz (.int i)) := rfl
theorem bi_int_bl : bi_int [.bl b] = some (.frz (.int (if b then 1 else 0))) := rfl
theorem bi_int_str : bi_int [.str x] = if decide (x.length ≤ 640) then (PySem.intText? x).map fun n => .frz (.int n) else none := rfl
theorem bi_abs_int : bi_abs [.int i] = some (.frz (.int (if i < 0 then -i else i))) := rfl
theorem bi_all_lst : bi_all [.lst xs] = (blsD xs).map fun bs => .frz (.bl (bs.all id)) := rfl
theorem bi_any_lst : bi_any [.lst xs] = (blsD xs).map fun bs => .frz (.bl (bs.any id)) := rfl
theorem bi_sum_lst : bi_sum [.lst xs] = (intsD xs).map fun bs => .frz (.int bs.sum) := rfl
theorem bi_sum_tup : bi_sum [.tup xs] = (intsD xs).map fun bs => .frz (.int bs.sum) := rfl
theorem bi_tuple_lst : bi_tuple [.lst xs] = some (.frz (.tup xs)) := rfl
theorem bi_tuple_tup : bi_tuple [.tup xs] = some (.frz (.tup xs)) := rfl
theorem bi_list_lst : bi_list [.lst xs] = some (.lst xs) := rfl
theorem bi_list_tup : bi_list [.tup xs] = some (.lst xs) := rfl
theorem bi_sorted_lst : bi_sorted [.lst xs] = if sortOk xs then some (.lst (sortD xs)) else none := rfl
theorem bi_sorted_tup : bi_sorted [.tup xs] = if sortOk xs then some (.lst (sortD xs)) else none := rfl
theorem bi_min_two : bi_min [.int i, .int j] = some (.frz (.int (if j < i then j else i))) := rfl
theorem bi_max_two : bi_max [.int i, .int j] = some (.frz (.int (if j > i then j else i))) := rfl
theorem bi_min_lst : bi_min [.lst xs] = (intsD xs).bind fun is => (minI is).map fun m => .frz (.int m) := rfl
theorem bi_max_lst : bi_max [.lst xs] = (intsD xs).bind fun is => (maxI is).map fun m => .frz (.int m) := rfl
theorem bi_repr_one : bi_repr [k] = (reprD k).map .frz := rfl
theorem bi_str_int : bi_str [.int i] = if decide (i.natAbs.log2 < 1900) then some (.frz (.str (toString i))) else none := rfl
theorem bi_str_str : bi_str [.str x] = some (.frz (.str x)) := rfl
theorem mt_index_lst : mt_index (.lst xs) [k] = (indexD xs k).map fun j => .frz (.int j) := by unfold mt_index; simp only []; cases indexD xs k <;> rfl
theorem mt_count_lst : mt_count (.lst xs) [k] = if flatD k && xs.all flatD then some (.frz (.int (xs.countP fun y => D.eqv y k))) else none := rfl
theorem mt_join_lst : mt_join (.str z) [.lst xs] = (strsD xs).bind fun ys => if decide ((ys.map (·.length)).sum + ys.length * z.length ≤ LIM) then some (.frz (.str (PySem.Txt.join z ys))) else none := rfl
theorem mt_split_str : mt_split (.str z) [.str y] = if decide (0 < y.length) && decide (z.length + 2 ≤ LIM) then some (.lst ((PySem.Txt.split z y).map .str)) else none := rfl
theorem mt_startswith_str : mt_startswith (.str z) [.str y] = some (.frz (.bl (PySem.Txt.startswith z y))) := rfl
theorem mt_endswith_str : mt_endswith (.str z) [.str y] = some (.frz (.bl (PySem.Txt.endswith z y))) := rfl
theorem mu_append_lst : mu_append (.lst xs) [k] = if decide (xs.length < LIM) then some (.lst (xs ++ [k]), .non) else none := rfl
theorem mu_extend_lst : mu_extend (.lst xs) [.lst ys] = if decide (xs.length + ys.length ≤ LIM) then some (.lst (xs ++ ys), .non) else none := rfl
theorem mu_reverse_lst : mu_reverse (.lst xs) [] = some (.lst xs.reverse, .non) := rfl
theorem mu_pop_lst : mu_pop (.lst xs) [] = (xs.getLast?).map fun x => (.lst xs.dropLast, x) := rfl
theorem mu_insert_lst : mu_insert (.lst xs) [.int i, k] = if decide (xs.length < LIM) && decide (0 ≤ i) && decide (i < 2 ^ 60) then some (.lst (xs.take i.toNat ++ [k] ++ xs.drop i.toNat), .non) else none := rfl
theorem binD_add : binD .add (.int i) (.int j) = some (.frz (.int (i + j))) := rfl
theorem binD_addb : binD .add (.int i) (.bl b) = some (.frz (.int (i + if b then 1 else 0))) := rfl
theorem binD_adds : binD .add (.str x) (.str y) = if decide (x.length + y.length ≤ LIM) then some (.frz (.str (x ++ y))) else none := rfl
theorem binD_addt : binD .add (.tup xs) (.tup ys) = if decide (xs.length + ys.length ≤ LIM) then some (.frz (.tup (xs ++ ys))) else none := rfl
theorem binD_addl : binD .add (.lst xs) (.lst ys) = if decide (xs.length + ys.length ≤ LIM) then some (.lst (xs ++ ys)) else none := rfl
theorem binD_sub : binD .sub (.int i) (.int j) = some (.frz (.int (i - j))) := rfl
theorem binD_mul : binD .mul (.int i) (.int j) = if mulOk i j then some (.frz (.int (i * j))) else none := rfl
theorem binD_mull : binD .mul (.lst xs) (.int i) = if decide (xs.length * i.toNat ≤ LIM) && decide (i < 1000000000) && decide (-1000000000 < i) then some (.lst (repD xs i)) else none := rfl
theorem binD_fdv : binD .fdv (.int i) (.int j) = if divOk j then some (.frz (.int (i / j))) else none := rfl
theorem binD_mod : binD .mod (.int i) (.int j) = if j = 0 then none else some (.frz (.int (i.fmod j))) := rfl
theorem binD_pow : binD .pow (.int i) (.int j) = if decide (0 ≤ j) && decide (j ≤ 1000) && decide (i.natAbs < 2 ^ 64) then some (.frz (.int (i ^ j.toNat))) else none := rfl
theorem cmpD_eqs : cmpD .eq (.str x) (.str y) = some (decide (x = y)) := rfl
theorem cmpD_nes : cmpD .ne (.str x) (.str y) = some (!decide (x = y)) := rfl
theorem cmpD_lt : cmpD .lt (.int i) (.int j) = some (decide (i < j)) := rfl
theorem cmpD_lts : cmpD .lt (.str x) (.str y) = some (decide (x.cps.toList < y.cps.toList)) := rfl
theorem cmpD_le : cmpD .le (.int i) (.int j) = some (decide (i ≤ j)) := rfl
theorem cmpD_les : cmpD .le (.str x) (.str y) = some (!decide (y.cps.toList < x.cps.toList)) := rfl
theorem cmpD_gt : cmpD .gt (.int i) (.int j) = some (decide (j < i)) := rfl
theorem cmpD_ge : cmpD .ge (.int i) (.int j) = some (decide (j ≤ i)) := rfl
theorem cmpD_is : cmpD .isx k .non = some k.isNon := rfl
theorem cmpD_isn : cmpD .isn k .non = some (!k.isNon) := rfl
theorem cmpD_isb : cmpD .isx (.bl b) (.bl c) = some (b == c) := rfl
theorem cmpD_isnb : cmpD .isn (.bl b) (.bl c) = some (b != c) := rfl

theorem eqOk_int : eqOk (.int i) = true := rfl
theorem eqOk_str (h : x.cps.all (· < 0x110000) = true) : eqOk (.str x) = true := by unfold eqOk; simp only [D.plain, okS, h, D.depth]; rfl
theorem cmpD_eqi : cmpD .eq (.int i) (.int j) = some (decide (i = j)) := by
  show (if (eqOk (.int i) && eqOk (.int j)) = true then some (D.eqv (.int i) (.int j)) else none) = _
  rw [if_pos (by rfl)]
  simp only [D.eqv]
  by_cases h : i = j <;> simp [h]
theorem cmpD_nei : cmpD .ne (.int i) (.int j) = some (!decide (i = j)) := by
  show (if (eqOk (.int i) && eqOk (.int j)) = true then some (!D.eqv (.int i) (.int j)) else none) = _
  rw [if_pos (by rfl)]
  simp only [D.eqv]
  by_cases h : i = j <;> simp [h]
theorem cmpD_eq {a b : D} (ha : eqOk a = true) (hb : eqOk b = true) : cmpD .eq a b = some (D.eqv a b) := by
  cases a <;> cases b <;> first | (simp only [cmpD, ha, hb, Bool.and_self, if_true]; done) | rfl
theorem cmpD_ne {a b : D} (ha : eqOk a = true) (hb : eqOk b = true) : cmpD .ne a b = some (!D.eqv a b) := by
  cases a <;> cases b <;> first | (simp only [cmpD, ha, hb, Bool.and_self, if_true]; done) | rfl
theorem cmpD_in {a b : D} : cmpD .inx a b = inD a b := by cases b <;> rfl
theorem cmpD_nin {a b : D} : cmpD .nin a b = (inD a b).map (!·) := by cases b <;> rfl

theorem subD_tup : subD (.tup xs) (.int i) = (ixD xs.length i).bind fun j => xs[j]? := rfl
theorem subD_lst : subD (.lst xs) (.int i) = (ixD xs.length i).bind fun j => xs[j]? := rfl
theorem subD_str : subD (.str x) (.int i) = (ixD x.length i).bind fun j => (x.cps[j]?).map fun c => .str ⟨#[c]⟩ := rfl
theorem slcD_tup {l h : Option Int} : slcD (.tup xs) l h = some (.frz (.tup (cutD xs l h))) := rfl
theorem slcD_lst {l h : Option Int} : slcD (.lst xs) l h = some (.lst (cutD xs l h)) := rfl
theorem slcD_str {l h : Option Int} : slcD (.str x) l h = some (.frz (.str ⟨(cutD x.cps.toList l h).toArray⟩)) := rfl
theorem itemsD_tup : itemsD (.tup xs) = some xs := rfl
theorem itemsD_lst : itemsD (.lst xs) = some xs := rfl
theorem itemsD_str : itemsD (.str x) = some (x.cps.toList.map fun c => .str ⟨#[c]⟩) := rfl
theorem itemsD_scr {ns : List Int} : itemsD (.scr ns) = some (ns.map .int) := rfl
theorem revD_tup : revD (.tup xs) = some (.frz (.tup xs.reverse)) := rfl
theorem revD_lst : revD (.lst xs) = some (.lst xs.reverse) := rfl
theorem negD_int : negD (.int i) = some (.int (-i)) := rfl
theorem tru_non : D.tru (.non) = some false := rfl
theorem tru_bl : D.tru (.bl b) = some b := rfl
theorem tru_int : D.tru (.int i) = some (i != 0) := rfl
theorem tru_str : D.tru (.str x) = some (x.length != 0) := rfl
theorem tru_tup : D.tru (.tup xs) = some !xs.isEmpty := rfl
theorem tru_lst : D.tru (.lst xs) = some !xs.isEmpty := rfl
theorem isNon_non : D.isNon (.non) = true := rfl
theorem isNon_bl : D.isNon (.bl b) = false := rfl
theorem isNon_int : D.isNon (.int i) = false := rfl
theorem isNon_str : D.isNon (.str x) = false := rfl
theorem isNon_tup : D.isNon (.tup xs) = false := rfl
theorem isNon_lst : D.isNon (.lst xs) = false := rfl
theorem isiD_non : isiD .non x = some false := rfl
theorem isiD_bl_int : isiD (.bl b) "int" = some true := by unfold isiD; exact congrArg some (by decide +kernel)
theorem isiD_bl_bool : isiD (.bl b) "bool" = some true := by unfold isiD; exact congrArg some (by decide +kernel)
theorem isiD_bl_str : isiD (.bl b) "str" = some false := by unfold isiD; exact congrArg some (by decide +kernel)
theorem isiD_bl_tuple : isiD (.bl b) "tuple" = some false := by unfold isiD; exact congrArg some (by decide +kernel)
theorem isiD_bl_list : isiD (.bl b) "list" = some false := by unfold isiD; exact congrArg some (by decide +kernel)
theorem isiD_bl_dict : isiD (.bl b) "dict" = some false := by unfold isiD; exact congrArg some (by decide +kernel)
theorem isiD_int_int : isiD (.int i) "int" = some true := by unfold isiD; exact congrArg some (by decide +kernel)
theorem isiD_int_bool : isiD (.int i) "bool" = some false := by unfold isiD; exact congrArg some (by decide +kernel)
theorem isiD_int_str : isiD (.int i) "str" = some false := by unfold isiD; exact congrArg some (by decide +kernel)
theorem isiD_int_tuple : isiD (.int i) "tuple" = some false := by unfold isiD; exact congrArg some (by decide +kernel)
theorem isiD_int_list : isiD (.int i) "list" = some false := by unfold isiD; exact congrArg some (by decide +kernel)
theorem isiD_int_dict : isiD (.int i) "dict" = some false := by unfold isiD; exact congrArg some (by decide +kernel)
theorem isiD_str_int : isiD (.str x) "int" = some false := by unfold isiD; exact congrArg some (by decide +kernel)
theorem isiD_str_bool : isiD (.str x) "bool" = some false := by unfold isiD; exact congrArg some (by decide +kernel)
theorem isiD_str_str : isiD (.str x) "str" = some true := by unfold isiD; exact congrArg some (by decide +kernel)
theorem isiD_str_tuple : isiD (.str x) "tuple" = some false := by unfold isiD; exact congrArg some (by decide +kernel)
theorem isiD_str_list : isiD (.str x) "list" = some false := by unfold isiD; exact congrArg some (by decide +kernel)
theorem isiD_str_dict : isiD (.str x) "dict" = some false := by unfold isiD; exact congrArg some (by decide +kernel)
theorem isiD_tup_int : isiD (.tup xs) "int" = some false := by unfold isiD; exact congrArg some (by decide +kernel)
theorem isiD_tup_bool : isiD (.tup xs) "bool" = some false := by unfold isiD; exact congrArg some (by decide +kernel)
theorem isiD_tup_str : isiD (.tup xs) "str" = some false := by unfold isiD; exact congrArg some (by decide +kernel)
theorem isiD_tup_tuple : isiD (.tup xs) "tuple" = some true := by unfold isiD; exact congrArg some (by decide +kernel)
theorem isiD_tup_list : isiD (.tup xs) "list" = some false := by unfold isiD; exact congrArg some (by decide +kernel)
theorem isiD_tup_dict : isiD (.tup xs) "dict" = some false := by unfold isiD; exact congrArg some (by decide +kernel)
theorem isiD_lst_int : isiD (.lst xs) "int" = some false := by unfold isiD; exact congrArg some (by decide +kernel)
theorem isiD_lst_bool : isiD (.lst xs) "bool" = some false := by unfold isiD; exact congrArg some (by decide +kernel)
theorem isiD_lst_str : isiD (.lst xs) "str" = some false := by unfold isiD; exact congrArg some (by decide +kernel)
theorem isiD_lst_tuple : isiD (.lst xs) "tuple" = some false := by unfold isiD; exact congrArg some (by decide +kernel)
theorem isiD_lst_list : isiD (.lst xs) "list" = some true := by unfold isiD; exact congrArg some (by decide +kernel)
theorem isiD_lst_dict : isiD (.lst xs) "dict" = some false := by unfold isiD; exact congrArg some (by decide +kernel)
end
section
variable {o : Option O} {s : Env} {i n : Nat} {b : Option O}
theorem getO_zero : getO (o :: s) 0 = o := by unfold getO; cases o <;> rfl
theorem getO_succ : getO (o :: s) (i + 1) = getO s i := by unfold getO; rfl
theorem set_zero : (o :: s).set 0 b = b :: s := rfl
theorem set_succ : (o :: s).set (i + 1) b = o :: s.set i b := rfl
theorem wipe_nil : wipeE [] s = s := rfl
theorem wipe_cons {r : List Nat} : wipeE (i :: r) s = (wipeE r s).set i none := rfl
theorem back_nil {s0 : Env} : backE [] s0 s = s := rfl
theorem back_cons {s0 : Env} {r : List Nat} : backE (i :: r) s0 s = (backE r s0 s).set i (getO s0 i) := rfl
theorem lb_lent {as : List A} {o : O} {os : List O} {fs : List Bool} : lendBack (.plc i :: as) (o :: os) (true :: fs) s = lendBack as os fs (s.set i (some o)) := rfl
theorem lb_keep {as : List A} {o : O} {os : List O} {fs : List Bool} : lendBack (.plc i :: as) (o :: os) (false :: fs) s = lendBack as os fs s := rfl
theorem lb_val {as : List A} {d : D} {o : O} {os : List O} {b : Bool} {fs : List Bool} : lendBack (.val d :: as) (o :: os) (b :: fs) s = lendBack as os fs s := rfl
theorem lb_nil {fs : List Bool} : lendBack [] [] fs s = some s := by cases fs <;> rfl
theorem lb_nof {a : A} {as : List A} {o : O} {os : List O} : lendBack (a :: as) (o :: os) [] s = lendBack as os [] s := by cases a <;> rfl
theorem ol_nil {os : List O} {fs : List Bool} : okLend [] os fs = true := by unfold okLend; rfl
theorem ol_val {d : D} {as : List A} {o : O} {os : List O} {fs : List Bool} : okLend (.val d :: as) (o :: os) fs = okLend as os fs.tail := rfl
theorem ol_lent {as : List A} {o : O} {os : List O} {fs : List Bool} : okLend (.plc i :: as) (o :: os) (true :: fs) = okLend as os fs := by
  show ((true || _) && okLend as os fs) = _
  rw [Bool.true_or, Bool.true_and]
theorem ol_exc {as : List A} {c : Str} {a : Option (Str × Int)} {os : List O} {fs : List Bool} {f : Bool} : okLend (.plc i :: as) (.exc c a :: os) (f :: fs) = okLend as os fs := by
  show ((f || true) && okLend as os fs) = _
  rw [Bool.or_true, Bool.true_and]
theorem tail_c {α : Type} {a : α} {as : List α} : (a :: as).tail = as := rfl
theorem tail_n {α : Type} : ([] : List α).tail = [] := rfl
theorem plcs_nil : plcs [] = [] := rfl
theorem plcs_val {d : D} {r : List A} : plcs (.val d :: r) = plcs r := rfl
theorem plcs_plc {r : List A} : plcs (.plc i :: r) = i :: plcs r := rfl
theorem nodup_nil : decide (([] : List Nat).Nodup) = true := rfl
theorem nodup_one : decide ([i].Nodup) = true := by simp
/-! what a call leaves in the lent places -/
theorem outs_nil {fs : List Bool} : Z.outs s [] fs n = some [] := by unfold Z.outs; rfl
theorem outs_frz {d : D} {os : List O} {fs : List Bool} : Z.outs s (.frz d :: os) fs n = (Z.outs s os fs.tail (n + 1)).map (.frz d :: ·) := by
  conv => lhs; unfold Z.outs
  rfl
theorem outs_exc {c : Str} {a : Option (Str × Int)} {os : List O} {fs : List Bool} : Z.outs s (.exc c a :: os) fs n = (Z.outs s os fs.tail (n + 1)).map (.exc c a :: ·) := by
  conv => lhs; unfold Z.outs
  rfl
def ownO (o : Option O) : Option O := o.bind fun u => if u.own then some u else none
theorem ownO_lst {xs : List D} : ownO (some (.lst xs)) = some (.lst xs) := rfl
theorem ownO_dct {xs : List (D × D)} : ownO (some (.dct xs)) = some (.dct xs) := rfl
theorem ownO_ins {c : Str} {xs : List (Str × D)} : ownO (some (.ins c xs)) = some (.ins c xs) := rfl
theorem outs_lst {xs : List D} {os : List O} {fs : List Bool} : Z.outs s (.lst xs :: os) (true :: fs) n = (ownO (getO s n)).bind fun u => (Z.outs s os fs (n + 1)).map (u :: ·) := by
  conv => lhs; unfold Z.outs
  rfl
theorem outs_dct {xs : List (D × D)} {os : List O} {fs : List Bool} : Z.outs s (.dct xs :: os) (true :: fs) n = (ownO (getO s n)).bind fun u => (Z.outs s os fs (n + 1)).map (u :: ·) := by
  conv => lhs; unfold Z.outs
  rfl
theorem outs_ins {c : Str} {xs : List (Str × D)} {os : List O} {fs : List Bool} : Z.outs s (.ins c xs :: os) (true :: fs) n = (ownO (getO s n)).bind fun u => (Z.outs s os fs (n + 1)).map (u :: ·) := by
  conv => lhs; unfold Z.outs
  rfl
end
/-- a def's run -/
theorem runFn_W {C : Cxt} {f : Fn} {args : List O} {Q : O → List O → Prop} {X : Ex → List O → Prop} (hl : args.length = f.np)
    (h : W (xSs C f.body (args.map some ++ List.replicate (f.ns.length - f.np) none))
      (fun r s => OK (Z.outs s args f.lent 0) fun os => match r with | .rt o => Q o os | .nx => Q (.frz .non) os | _ => False)
      (fun e s => OK (Z.outs s args f.lent 0) fun os => X e os)) : FW (runFn C f args) Q X := by
  simp only [W_sl, OK_sl, FW_sl] at h ⊢
  exact Y0.runFn_W hl h
end Z.Y
end

section
set_option Elab.async false
set_option linter.all false
set_option maxRecDepth 100000
set_option maxHeartbeats 1000000
/-! ZWt: loops and comprehensions, by what holds at each turn. -/
namespace Z.Y
open PySem
open Z.Y0 (eV eA eT eI eW eD eG eAs eDs eSp eTs eAnd eOr eCs eArg eIfs xSs xS lcR forR eGs eVs eGo isMk isTs isV isStar negD zipD enuD rvsD)
variable {C : Cxt} {s : Env} {X : Ex → Env → Prop} {a e tg it : E} {es : List E} {own : List Nat} {ta : List S} {τ : Type}
/-- a loop over what a typed list is told as: I done s -/
theorem forT {Q : SR → Env → Prop} (enc : τ → D) (xs : List τ) (I : List τ → Env → Prop) (h0 : I [] s)
    (hs : ∀ (dn : List τ) (x : τ) (rs : List τ) (s : Env), xs = dn ++ x :: rs → I dn s → W (eG C a (.frz (enc x)) s) (fun _ s1 => W (xSs C ta s1) (fun r s2 => KL r s2 (fun s3 => I (dn ++ [x]) s3) Q) X) X)
    (h1 : ∀ s, I xs s → Q .nx s) : W (forR C a ta (xs.map enc) s) Q X := by
  have go : ∀ (rs dn : List τ) (s : Env), xs = dn ++ rs → I dn s → W (forR C a ta (rs.map enc) s) Q X := by
    intro rs
    induction rs with
    | nil =>
      intro dn s e h
      rw [List.map_nil, forR_nil]
      rw [List.append_nil] at e
      subst e
      exact h1 s h
    | cons x rs ih =>
      intro dn s e h
      rw [List.map_cons, forR_cons]
      refine W_mono (hs dn x rs s e h) (fun _ s1 h2 => ?_) (fun _ _ h => h)
      refine W_mono h2 (fun r s2 h3 => ?_) (fun _ _ h => h)
      have e2 : xs = (dn ++ [x]) ++ rs := by rw [e, List.append_assoc]; rfl
      cases r with
      | nx => rw [KL_nx] at h3 ⊢; exact ih _ _ e2 h3
      | ct => rw [KL_ct] at h3 ⊢; exact ih _ _ e2 h3
      | bk => rw [KL_bk] at h3 ⊢; exact h3
      | rt o => rw [KL_rt] at h3 ⊢; exact h3
  exact go xs [] s rfl h0
/-- the same over data as they are -/
theorem forD {Q : SR → Env → Prop} {xs : List D} (I : List D → Env → Prop) (h0 : I [] s)
    (hs : ∀ (dn : List D) (x : D) (rs : List D) (s : Env), xs = dn ++ x :: rs → I dn s → W (eG C a (.frz x) s) (fun _ s1 => W (xSs C ta s1) (fun r s2 => KL r s2 (fun s3 => I (dn ++ [x]) s3) Q) X) X)
    (h1 : ∀ s, I xs s → Q .nx s) : W (forR C a ta xs s) Q X := by
  have := forT (C := C) (s := s) (X := X) (a := a) (ta := ta) (Q := Q) id xs I h0 hs h1
  rwa [List.map_id] at this
/-- a comprehension, by what holds at each turn: I done acc s (s with its own names wiped) -/
theorem lcI {Q : O → Env → Prop} (enc : τ → D) (xs : List τ) (I : List τ → List D → Env → Prop) (h0 : I [] [] (wipeE own s))
    (hs : ∀ (dn : List τ) (x : τ) (rs : List τ) (acc : List D) (s : Env), xs = dn ++ x :: rs → I dn acc s → W (eG C tg (.frz (enc x)) s) (fun _ s1 => W (eIfs C es s1) (fun t s2 =>
      BK t (W (eD C e s2) (fun y s3 => I (dn ++ [x]) (acc ++ [y]) (wipeE own s3)) X) (I (dn ++ [x]) acc (wipeE own s2))) X) X)
    (h1 : ∀ acc s, I xs acc s → Q (.lst acc) s) : W (lcR C own e tg es (xs.map enc) [] s) Q X := by
  have go : ∀ (rs dn : List τ) (acc : List D) (s : Env), xs = dn ++ rs → I dn acc (wipeE own s) → W (lcR C own e tg es (rs.map enc) acc s) Q X := by
    intro rs
    induction rs with
    | nil =>
      intro dn acc s e h
      rw [List.map_nil, lcR_nil]
      rw [List.append_nil] at e
      subst e
      exact h1 acc _ h
    | cons x rs ih =>
      intro dn acc s e h
      rw [List.map_cons, lcR_cons]
      refine W_mono (hs dn x rs acc _ e h) (fun _ s1 h2 => ?_) (fun _ _ h => h)
      refine W_mono h2 (fun t s2 h3 => ?_) (fun _ _ h => h)
      have e2 : xs = (dn ++ [x]) ++ rs := by rw [e, List.append_assoc]; rfl
      cases t with
      | true =>
        rw [BK_t] at h3 ⊢
        refine W_mono h3 (fun y s3 h4 => ?_) (fun _ _ h => h)
        exact ih _ _ _ e2 h4
      | false =>
        rw [BK_f] at h3 ⊢
        exact ih _ _ _ e2 h3
  exact go xs [] [] s rfl h0
/-- a comprehension that changes nothing: what it gives is g of each item -/
theorem lcP {Q : O → Env → Prop} (enc : τ → D) (xs : List τ) (g : τ → List D) 
    (hs : ∀ x ∈ xs, W (eG C tg (.frz (enc x)) (wipeE own s)) (fun _ s1 => W (eIfs C es s1) (fun t s2 =>
      BK t (W (eD C e s2) (fun y s3 => wipeE own s3 = wipeE own s ∧ g x = [y]) X) (wipeE own s2 = wipeE own s ∧ g x = [])) X) X)
    (h1 : Q (.lst (xs.flatMap g)) (wipeE own s)) : W (lcR C own e tg es (xs.map enc) [] s) Q X := by
  refine lcI enc xs (fun dn acc s1 => s1 = wipeE own s ∧ acc = dn.flatMap g) ⟨rfl, rfl⟩ (fun dn x rs acc s1 e1 h => ?_) (fun acc s1 h => ?_)
  · obtain ⟨rfl, rfl⟩ := h
    refine W_mono (hs x (by rw [e1]; simp)) (fun _ s1 h2 => ?_) (fun _ _ h => h)
    refine W_mono h2 (fun t s2 h3 => ?_) (fun _ _ h => h)
    cases t with
    | true =>
      rw [BK_t] at h3 ⊢
      refine W_mono h3 (fun y s3 h4 => ?_) (fun _ _ h => h)
      refine ⟨h4.1, ?_⟩
      rw [List.flatMap_append, List.flatMap_cons, List.flatMap_nil, h4.2]; rfl
    | false =>
      rw [BK_f] at h3 ⊢
      refine ⟨h3.1, ?_⟩
      rw [List.flatMap_append, List.flatMap_cons, List.flatMap_nil, h3.2]; simp
  · obtain ⟨rfl, rfl⟩ := h
    exact h1
theorem fm_one {τ σ : Type} (g : τ → σ) : ∀ xs : List τ, xs.flatMap (fun x => [g x]) = xs.map g
  | [] => rfl
  | x :: xs => by rw [List.flatMap_cons, fm_one g xs]; rfl
/-- without tests: a map -/
theorem lcM1 {Q : O → Env → Prop} (enc : τ → D) (xs : List τ) (g : τ → D) 
    (hs : ∀ x ∈ xs, W (eG C tg (.frz (enc x)) (wipeE own s)) (fun _ s1 => W (eD C e s1) (fun y s3 => wipeE own s3 = wipeE own s ∧ y = g x) X) X)
    (h1 : Q (.lst (xs.map g)) (wipeE own s)) : W (lcR C own e tg [] (xs.map enc) [] s) Q X := by
  refine lcP enc xs (fun x => [g x]) (fun x hx => ?_) (by rw [fm_one]; exact h1)
  refine W_mono (hs x hx) (fun _ s1 h => ?_) (fun _ _ h => h)
  rw [eIfs_nil, BK_t]
  exact W_mono h (fun y s3 h => ⟨h.1, by rw [h.2]⟩) (fun _ _ h => h)
/-- over data -/
theorem lcMD {Q : O → Env → Prop} {xs : List D} (g : D → D) 
    (hs : ∀ x ∈ xs, W (eG C tg (.frz x) (wipeE own s)) (fun _ s1 => W (eD C e s1) (fun y s3 => wipeE own s3 = wipeE own s ∧ y = g x) X) X)
    (h1 : Q (.lst (xs.map g)) (wipeE own s)) : W (lcR C own e tg [] xs [] s) Q X := by
  have := lcM1 (C := C) (s := s) (X := X) (tg := tg) (e := e) (own := own) (Q := Q) id xs g hs h1
  rwa [List.map_id] at this
theorem all_id {τ : Type} (xs : List τ) (f : τ → Bool) : (xs.map f).all id = xs.all f := by rw [List.all_map]; rfl
theorem any_id {τ : Type} (xs : List τ) (f : τ → Bool) : (xs.map f).any id = xs.any f := by rw [List.any_map]; rfl
theorem blsD_map {τ : Type} (xs : List τ) (f : τ → Bool) : blsD (xs.map fun x => .bl (f x)) = some (xs.map f) := by
  induction xs with
  | nil => rfl
  | cons x xs ih => rw [List.map_cons, blsD, ih]; rfl
theorem intsD_map {τ : Type} (xs : List τ) (f : τ → Int) : intsD (xs.map fun x => .int (f x)) = some (xs.map f) := by
  induction xs with
  | nil => rfl
  | cons x xs ih => rw [List.map_cons, intsD, ih]; rfl
theorem strsD_map {τ : Type} (xs : List τ) (f : τ → Str) : strsD (xs.map fun x => .str (f x)) = some (xs.map f) := by
  induction xs with
  | nil => rfl
  | cons x xs ih => rw [List.map_cons, strsD, ih]; rfl
theorem strsD_str : ∀ ys : List Str, strsD (ys.map D.str) = some ys
  | [] => rfl
  | y :: ys => by rw [List.map_cons, strsD, strsD_str ys]; rfl
/-- a def's call -/
theorem call_W {P : Prog} {x : Str} {f : Fn} {n : Nat} {args : List O} {Q : O → List O → Prop} {X : Ex → List O → Prop} (hn : 0 < n) (hf : P.fns.lookup x = some f) (hl : args.length = f.np)
    (h : ∀ m, n = m + 1 → W (xSs (P.cxt (P.call m)) f.body (args.map some ++ List.replicate (f.ns.length - f.np) none))
      (fun r s => OK (Z.outs s args f.lent 0) fun os => match r with | .rt o => Q o os | .nx => Q (.frz .non) os | _ => False)
      (fun e s => OK (Z.outs s args f.lent 0) fun os => X e os)) : FW (P.call n x args) Q X := by
  obtain ⟨m, rfl⟩ : ∃ m, n = m + 1 := ⟨n - 1, by omega⟩
  have e : P.call (m + 1) x args = runFn (P.cxt (P.call m)) f args := by simp only [Prog.call, hf]
  rw [e]
  exact runFn_W hl (h m rfl)
theorem FW_eq {r : FR} {o : O} {os : List O} (h : FW r (fun a s => a = o ∧ s = os) (fun _ _ => False)) : r = .ok o os := by
  cases r with
  | ok a s => rw [FW_ok] at h; obtain ⟨rfl, rfl⟩ := h; rfl
  | ex _ _ => rw [FW_ex] at h; exact h.elim
  | st => rw [FW_st] at h; exact h.elim
end Z.Y
end

section
set_option Elab.async false
set_option linter.all false
set_option maxRecDepth 100000
/-! ZWu: kinds of expressions, for simp. -/
namespace Z.Y
open PySem
open Z.Y0 (eV eA eT eI eW eD eG eAs eDs eSp eTs eAnd eOr eCs eArg eIfs xSs xS lcR forR eGs eVs eGo isMk isTs isV isStar negD zipD enuD rvsD)
variable {i : Int} {j k : Nat} {z : Str} {o : Bop} {c c2 c3 : Cop} {a b d e f : E} {es fs : List E} {ns : List Nat} {sc : Scope} {p q : Pos} {oa ob oc : Option E} {bb : Bool}
theorem isV_non : isV (E.non k p) = false := (rfl)
theorem isStar_non : isStar (E.non k p) = false := (rfl)
theorem isMk_non : isMk (E.non k p) = true := (rfl)
theorem isTs_non : isTs (E.non k p) = false := (rfl)
theorem isTup2l_non : isTup2 (E.non k p) f = false := (rfl)
theorem isTup2r_non : isTup2 f (E.non k p) = false := by cases f <;> rfl
theorem isV_bl : isV (E.bl bb k p) = false := (rfl)
theorem isStar_bl : isStar (E.bl bb k p) = false := (rfl)
theorem isMk_bl : isMk (E.bl bb k p) = true := (rfl)
theorem isTs_bl : isTs (E.bl bb k p) = false := (rfl)
theorem isTup2l_bl : isTup2 (E.bl bb k p) f = false := (rfl)
theorem isTup2r_bl : isTup2 f (E.bl bb k p) = false := by cases f <;> rfl
theorem isV_int : isV (E.int i k p) = false := (rfl)
theorem isStar_int : isStar (E.int i k p) = false := (rfl)
theorem isMk_int : isMk (E.int i k p) = true := (rfl)
theorem isTs_int : isTs (E.int i k p) = false := (rfl)
theorem isTup2l_int : isTup2 (E.int i k p) f = false := (rfl)
theorem isTup2r_int : isTup2 f (E.int i k p) = false := by cases f <;> rfl
theorem isV_str : isV (E.str z k p) = false := (rfl)
theorem isStar_str : isStar (E.str z k p) = false := (rfl)
theorem isMk_str : isMk (E.str z k p) = true := (rfl)
theorem isTs_str : isTs (E.str z k p) = false := (rfl)
theorem isTup2l_str : isTup2 (E.str z k p) f = false := (rfl)
theorem isTup2r_str : isTup2 f (E.str z k p) = false := by cases f <;> rfl
theorem isV_var : isV (E.var j z p) = true := (rfl)
theorem isStar_var : isStar (E.var j z p) = false := (rfl)
theorem isMk_var : isMk (E.var j z p) = false := (rfl)
theorem isTs_var : isTs (E.var j z p) = false := (rfl)
theorem isTup2l_var : isTup2 (E.var j z p) f = false := (rfl)
theorem isTup2r_var : isTup2 f (E.var j z p) = false := by cases f <;> rfl
theorem isV_glb : isV (E.glb z p) = false := (rfl)
theorem isStar_glb : isStar (E.glb z p) = false := (rfl)
theorem isMk_glb : isMk (E.glb z p) = true := (rfl)
theorem isTs_glb : isTs (E.glb z p) = false := (rfl)
theorem isTup2l_glb : isTup2 (E.glb z p) f = false := (rfl)
theorem isTup2r_glb : isTup2 f (E.glb z p) = false := by cases f <;> rfl
theorem isV_bin : isV (E.bin o a b p) = false := (rfl)
theorem isStar_bin : isStar (E.bin o a b p) = false := (rfl)
theorem isMk_bin : isMk (E.bin o a b p) = true := (rfl)
theorem isTs_bin : isTs (E.bin o a b p) = false := (rfl)
theorem isTup2l_bin : isTup2 (E.bin o a b p) f = false := (rfl)
theorem isTup2r_bin : isTup2 f (E.bin o a b p) = false := by cases f <;> rfl
theorem isV_neg : isV (E.neg a p) = false := (rfl)
theorem isStar_neg : isStar (E.neg a p) = false := (rfl)
theorem isMk_neg : isMk (E.neg a p) = true := (rfl)
theorem isTs_neg : isTs (E.neg a p) = false := (rfl)
theorem isTup2l_neg : isTup2 (E.neg a p) f = false := (rfl)
theorem isTup2r_neg : isTup2 f (E.neg a p) = false := by cases f <;> rfl
theorem isV_nt : isV (E.nt a p) = false := (rfl)
theorem isStar_nt : isStar (E.nt a p) = false := (rfl)
theorem isMk_nt : isMk (E.nt a p) = false := (rfl)
theorem isTs_nt : isTs (E.nt a p) = true := (rfl)
theorem isTup2l_nt : isTup2 (E.nt a p) f = false := (rfl)
theorem isTup2r_nt : isTup2 f (E.nt a p) = false := by cases f <;> rfl
theorem isV_band : isV (E.band es p) = false := (rfl)
theorem isStar_band : isStar (E.band es p) = false := (rfl)
theorem isMk_band : isMk (E.band es p) = false := (rfl)
theorem isTs_band : isTs (E.band es p) = true := (rfl)
theorem isTup2l_band : isTup2 (E.band es p) f = false := (rfl)
theorem isTup2r_band : isTup2 f (E.band es p) = false := by cases f <;> rfl
theorem isV_bor : isV (E.bor es p) = false := (rfl)
theorem isStar_bor : isStar (E.bor es p) = false := (rfl)
theorem isMk_bor : isMk (E.bor es p) = false := (rfl)
theorem isTs_bor : isTs (E.bor es p) = true := (rfl)
theorem isTup2l_bor : isTup2 (E.bor es p) f = false := (rfl)
theorem isTup2r_bor : isTup2 f (E.bor es p) = false := by cases f <;> rfl
theorem isV_cmp : isV (E.cmp c a b p) = false := (rfl)
theorem isStar_cmp : isStar (E.cmp c a b p) = false := (rfl)
theorem isMk_cmp : isMk (E.cmp c a b p) = false := (rfl)
theorem isTs_cmp : isTs (E.cmp c a b p) = true := (rfl)
theorem isTup2l_cmp : isTup2 (E.cmp c a b p) f = false := (rfl)
theorem isTup2r_cmp : isTup2 f (E.cmp c a b p) = false := by cases f <;> rfl
theorem isV_chn : isV (E.chn c c2 a b d p) = false := (rfl)
theorem isStar_chn : isStar (E.chn c c2 a b d p) = false := (rfl)
theorem isMk_chn : isMk (E.chn c c2 a b d p) = false := (rfl)
theorem isTs_chn : isTs (E.chn c c2 a b d p) = true := (rfl)
theorem isTup2l_chn : isTup2 (E.chn c c2 a b d p) f = false := (rfl)
theorem isTup2r_chn : isTup2 f (E.chn c c2 a b d p) = false := by cases f <;> rfl
theorem isV_chn3 : isV (E.chn3 c c2 c3 a b d e p) = false := (rfl)
theorem isStar_chn3 : isStar (E.chn3 c c2 c3 a b d e p) = false := (rfl)
theorem isMk_chn3 : isMk (E.chn3 c c2 c3 a b d e p) = false := (rfl)
theorem isTs_chn3 : isTs (E.chn3 c c2 c3 a b d e p) = true := (rfl)
theorem isTup2l_chn3 : isTup2 (E.chn3 c c2 c3 a b d e p) f = false := (rfl)
theorem isTup2r_chn3 : isTup2 f (E.chn3 c c2 c3 a b d e p) = false := by cases f <;> rfl
theorem isV_ife : isV (E.ife a b d p) = false := (rfl)
theorem isStar_ife : isStar (E.ife a b d p) = false := (rfl)
theorem isMk_ife : isMk (E.ife a b d p) = true := (rfl)
theorem isTs_ife : isTs (E.ife a b d p) = false := (rfl)
theorem isTup2l_ife : isTup2 (E.ife a b d p) f = false := (rfl)
theorem isTup2r_ife : isTup2 f (E.ife a b d p) = false := by cases f <;> rfl
theorem isV_call : isV (E.call z es p q) = false := (rfl)
theorem isStar_call : isStar (E.call z es p q) = false := (rfl)
theorem isMk_call : isMk (E.call z es p q) = true := (rfl)
theorem isTs_call : isTs (E.call z es p q) = false := (rfl)
theorem isTup2l_call : isTup2 (E.call z es p q) f = false := (rfl)
theorem isTup2r_call : isTup2 f (E.call z es p q) = false := by cases f <;> rfl
theorem isV_bi : isV (E.bi z es p q) = false := (rfl)
theorem isStar_bi : isStar (E.bi z es p q) = false := (rfl)
theorem isMk_bi : isMk (E.bi z es p q) = !isWalk z := (rfl)
theorem isTs_bi : isTs (E.bi z es p q) = false := (rfl)
theorem isTup2l_bi : isTup2 (E.bi z es p q) f = false := (rfl)
theorem isTup2r_bi : isTup2 f (E.bi z es p q) = false := by cases f <;> rfl
theorem isV_calle : isV (E.calle a es q) = false := (rfl)
theorem isStar_calle : isStar (E.calle a es q) = false := (rfl)
theorem isMk_calle : isMk (E.calle a es q) = true := (rfl)
theorem isTs_calle : isTs (E.calle a es q) = false := (rfl)
theorem isTup2l_calle : isTup2 (E.calle a es q) f = false := (rfl)
theorem isTup2r_calle : isTup2 f (E.calle a es q) = false := by cases f <;> rfl
theorem isV_meth : isV (E.meth a z es p q) = false := (rfl)
theorem isStar_meth : isStar (E.meth a z es p q) = false := (rfl)
theorem isMk_meth : isMk (E.meth a z es p q) = !(z == "items" || z == "values") := (rfl)
theorem isTs_meth : isTs (E.meth a z es p q) = false := (rfl)
theorem isTup2l_meth : isTup2 (E.meth a z es p q) f = false := (rfl)
theorem isTup2r_meth : isTup2 f (E.meth a z es p q) = false := by cases f <;> rfl
theorem isV_attr : isV (E.attr a z p) = false := (rfl)
theorem isStar_attr : isStar (E.attr a z p) = false := (rfl)
theorem isMk_attr : isMk (E.attr a z p) = true := (rfl)
theorem isTs_attr : isTs (E.attr a z p) = false := (rfl)
theorem isTup2l_attr : isTup2 (E.attr a z p) f = false := (rfl)
theorem isTup2r_attr : isTup2 f (E.attr a z p) = false := by cases f <;> rfl
theorem isV_sub : isV (E.sub a b p) = false := (rfl)
theorem isStar_sub : isStar (E.sub a b p) = false := (rfl)
theorem isMk_sub : isMk (E.sub a b p) = true := (rfl)
theorem isTs_sub : isTs (E.sub a b p) = false := (rfl)
theorem isTup2l_sub : isTup2 (E.sub a b p) f = false := (rfl)
theorem isTup2r_sub : isTup2 f (E.sub a b p) = false := by cases f <;> rfl
theorem isV_slc : isV (E.slc a oa ob oc p q) = false := (rfl)
theorem isStar_slc : isStar (E.slc a oa ob oc p q) = false := (rfl)
theorem isMk_slc : isMk (E.slc a oa ob oc p q) = true := (rfl)
theorem isTs_slc : isTs (E.slc a oa ob oc p q) = false := (rfl)
theorem isTup2l_slc : isTup2 (E.slc a oa ob oc p q) f = false := (rfl)
theorem isTup2r_slc : isTup2 f (E.slc a oa ob oc p q) = false := by cases f <;> rfl
theorem isV_lst : isV (E.lst es p) = false := (rfl)
theorem isStar_lst : isStar (E.lst es p) = false := (rfl)
theorem isMk_lst : isMk (E.lst es p) = true := (rfl)
theorem isTs_lst : isTs (E.lst es p) = false := (rfl)
theorem isTup2l_lst : isTup2 (E.lst es p) f = false := (rfl)
theorem isTup2r_lst : isTup2 f (E.lst es p) = false := by cases f <;> rfl
theorem isV_tup : isV (E.tup es k p) = false := (rfl)
theorem isStar_tup : isStar (E.tup es k p) = false := (rfl)
theorem isMk_tup : isMk (E.tup es k p) = true := (rfl)
theorem isTs_tup : isTs (E.tup es k p) = false := (rfl)
theorem isV_star : isV (E.star a p) = false := (rfl)
theorem isStar_star : isStar (E.star a p) = true := (rfl)
theorem isMk_star : isMk (E.star a p) = false := (rfl)
theorem isTs_star : isTs (E.star a p) = false := (rfl)
theorem isTup2l_star : isTup2 (E.star a p) f = false := (rfl)
theorem isTup2r_star : isTup2 f (E.star a p) = false := by cases f <;> rfl
theorem isV_dic : isV (E.dic es fs p) = false := (rfl)
theorem isStar_dic : isStar (E.dic es fs p) = false := (rfl)
theorem isMk_dic : isMk (E.dic es fs p) = true := (rfl)
theorem isTs_dic : isTs (E.dic es fs p) = false := (rfl)
theorem isTup2l_dic : isTup2 (E.dic es fs p) f = false := (rfl)
theorem isTup2r_dic : isTup2 f (E.dic es fs p) = false := by cases f <;> rfl
theorem isV_lc : isV (E.lc a b d es ns sc p) = false := (rfl)
theorem isStar_lc : isStar (E.lc a b d es ns sc p) = false := (rfl)
theorem isMk_lc : isMk (E.lc a b d es ns sc p) = true := (rfl)
theorem isTs_lc : isTs (E.lc a b d es ns sc p) = false := (rfl)
theorem isTup2l_lc : isTup2 (E.lc a b d es ns sc p) f = false := (rfl)
theorem isTup2r_lc : isTup2 f (E.lc a b d es ns sc p) = false := by cases f <;> rfl
theorem isV_lc2 : isV (E.lc2 a b d e f es ns sc p) = false := (rfl)
theorem isStar_lc2 : isStar (E.lc2 a b d e f es ns sc p) = false := (rfl)
theorem isMk_lc2 : isMk (E.lc2 a b d e f es ns sc p) = true := (rfl)
theorem isTs_lc2 : isTs (E.lc2 a b d e f es ns sc p) = false := (rfl)
theorem isTup2l_lc2 : isTup2 (E.lc2 a b d e f es ns sc p) f = false := (rfl)
theorem isTup2r_lc2 : isTup2 f (E.lc2 a b d e f es ns sc p) = false := by cases f <;> rfl
theorem isV_dc : isV (E.dc a b d e es ns sc p) = false := (rfl)
theorem isStar_dc : isStar (E.dc a b d e es ns sc p) = false := (rfl)
theorem isMk_dc : isMk (E.dc a b d e es ns sc p) = true := (rfl)
theorem isTs_dc : isTs (E.dc a b d e es ns sc p) = false := (rfl)
theorem isTup2l_dc : isTup2 (E.dc a b d e es ns sc p) f = false := (rfl)
theorem isTup2r_dc : isTup2 f (E.dc a b d e es ns sc p) = false := by cases f <;> rfl
theorem isWalk_range : isWalk "range" = true := by decide +kernel
theorem isWalk_zip : isWalk "zip" = true := by decide +kernel
theorem isWalk_enumerate : isWalk "enumerate" = true := by decide +kernel
theorem isWalk_reversed : isWalk "reversed" = true := by decide +kernel
theorem nd0 : (([] : List Nat).Nodup) = True := by simp
theorem nd1 {i : Nat} : ([i].Nodup) = True := by simp
theorem nd2 {i j : Nat} : ([i, j].Nodup) = ¬ (i = j) := by simp
theorem nd3 {i j k : Nat} : ([i, j, k].Nodup) = (¬ (i = j) ∧ ¬ (i = k) ∧ ¬ (j = k)) := by simp [and_assoc]
theorem true_eq : (true = true) = True := by simp
theorem false_eq : (false = false) = True := by simp
theorem tf_eq : (true = false) = False := by simp
theorem ft_eq : (false = true) = False := by simp
theorem rep_zero {α : Type} {x : α} : List.replicate 0 x = [] := rfl
theorem rep_succ {α : Type} {n : Nat} {x : α} : List.replicate (n + 1) x = x :: List.replicate n x := rfl
theorem not_t : (!true) = false := rfl
theorem not_f : (!false) = true := rfl
theorem band_t {b : Bool} : (true && b) = b := rfl
theorem band_f {b : Bool} : (false && b) = false := rfl
theorem and_tt {p : Prop} : (True ∧ p) = p := by simp
theorem and_tr {p : Prop} : (p ∧ True) = p := by simp
theorem and_fl {p : Prop} : (False ∧ p) = False := by simp
theorem and_fr {p : Prop} : (p ∧ False) = False := by simp
theorem imp_t {p : Prop} : (True → p) = p := by simp
theorem imp_f {p : Prop} : (False → p) = True := by simp
theorem imp_tt {p : Prop} : (p → True) = True := by simp
theorem n_t : (¬ True) = False := by simp
theorem n_f : (¬ False) = True := by simp
theorem dec_eq {p : Prop} [Decidable p] : (decide p = true) = p := by simp
theorem dec_ne {p : Prop} [Decidable p] : (decide p = false) = ¬p := by simp
theorem bnot_eq {b : Bool} : ((!b) = true) = (b = false) := by simp
theorem bnot_ne {b : Bool} : ((!b) = false) = (b = true) := by simp
theorem band_eq {b c : Bool} : ((b && c) = true) = (b = true ∧ c = true) := by simp
theorem eq_self' {α : Type} {b : α} : (b = b) = True := by simp
theorem mapc {α β : Type} {f : α → β} {x : α} {l : List α} : List.map f (x :: l) = f x :: List.map f l := rfl
theorem mapn {α β : Type} {f : α → β} : List.map f [] = [] := rfl
theorem appc {α : Type} {x : α} {l r : List α} : (x :: l) ++ r = x :: (l ++ r) := rfl
theorem appn {α : Type} {r : List α} : [] ++ r = r := rfl
theorem lenc {α : Type} {x : α} {l : List α} : (x :: l).length = l.length + 1 := rfl
theorem lmap {α β : Type} {f : α → β} {l : List α} : (List.map f l).length = l.length := List.length_map _
theorem lapp {α : Type} {l r : List α} : (l ++ r).length = l.length + r.length := List.length_append
theorem lrange {n : Nat} : (List.range n).length = n := List.length_range
theorem cps_len {x : Str} : x.cps.toList.length = x.length := (rfl)
theorem lenn {α : Type} : ([] : List α).length = 0 := rfl
def nx1 (j : Option O) : Bool := match j with
  | some (.exc _ _) => false
  | _ => true
theorem noExc_cons {j : Option O} {s : Env} : noExc (j :: s) = (nx1 j && noExc s) := by
  unfold noExc; rw [List.all_cons]; rfl
theorem noExc_nil : noExc [] = true := (rfl)
theorem nx1_frz {d : D} : nx1 (some (.frz d)) = true := (rfl)
theorem nx1_lst {d : List D} : nx1 (some (.lst d)) = true := (rfl)
theorem nx1_dct {d : List (D × D)} : nx1 (some (.dct d)) = true := (rfl)
theorem nx1_ins {c : Str} {d : List (Str × D)} : nx1 (some (.ins c d)) = true := (rfl)
theorem nx1_none : nx1 none = true := (rfl)
theorem noExcR_nx : noExcR .nx = true := (rfl)
theorem noExcR_frz {d : D} : noExcR (.rt (.frz d)) = true := (rfl)
theorem noExcR_lst {d : List D} : noExcR (.rt (.lst d)) = true := (rfl)
theorem noExcR_dct {d : List (D × D)} : noExcR (.rt (.dct d)) = true := (rfl)
end Z.Y
end

section
set_option Elab.async false
set_option linter.all false
set_option maxRecDepth 100000
set_option maxHeartbeats 1000000
/-! ZC0: bounds, ranges, lists of drawn numbers. -/
namespace Z.Y
open PySem
open Z.Y0 (eV eA eT eI eW eD eG eAs eDs eSp eTs eAnd eOr eCs eArg eIfs xSs xS lcR forR eGs eVs eGo isMk isTs isV isStar negD zipD enuD rvsD)
abbrev Lk (P : Prog) (x : Str) (f : Fn) : Prop := P.fns.lookup x = some f
theorem rng1 {n : Int} (h0 : -(2 ^ 60) ≤ n) (h : n < 2 ^ 60) : rngD [.int n] = some ((List.range n.toNat).map fun (k : Nat) => .int (k : Int)) := by
  unfold rngD
  simp only []
  unfold rangeD
  rw [if_pos (by simp only [Bool.and_eq_true, decide_eq_true_eq]; omega), if_pos rfl, show n - 0 = n from by omega]
  simp
theorem ixN_ok {n : Nat} {i : Int} (h0 : 0 ≤ i) (h1 : i < n) : L2.ixN n i = some i.toNat := by
  unfold L2.ixN; rw [if_pos h0, if_pos h1]
theorem fmod_nn {i j : Int} (h : 0 < j) : 0 ≤ i.fmod j ∧ i.fmod j < j := by
  rw [Int.fmod_eq_emod_of_nonneg _ (Int.le_of_lt h)]
  exact ⟨Int.emod_nonneg _ (by omega), Int.emod_lt_of_pos _ h⟩
theorem log2_lt {n k : Nat} (h : n < 2 ^ k) : n.log2 ≤ k := by
  by_cases h0 : n = 0
  · subst h0; simp
  · exact Nat.le_of_lt ((Nat.log2_lt h0).mpr h)
theorem mulOk_of {i j : Int} (a b : Nat) (hi : i.natAbs < 2 ^ a) (hj : j.natAbs < 2 ^ b) (h : a + b < 900000) : mulOk i j = true := by
  unfold mulOk
  rw [decide_eq_true_eq]
  have := log2_lt hi; have := log2_lt hj
  omega
theorem divOk_of {j : Int} (b : Nat) (hp : 0 < j) (hj : j.natAbs < 2 ^ b) (h : b < 9000) : divOk j = true := by
  unfold divOk
  have := log2_lt hj
  rw [Bool.and_eq_true, decide_eq_true_eq, decide_eq_true_eq]
  exact ⟨hp, by omega⟩
/-- numbers from 0 to 999 -/
def Dr (ns : List Int) : Prop := ∀ i ∈ ns, 0 ≤ i ∧ i < 1000
def drs (ns : List Int) : List D := ns.map .int
theorem drs_len (a : List Int) : (drs a).length = a.length := by unfold drs; exact List.length_map _
theorem drs_app (a b : List Int) : drs a ++ drs b = drs (a ++ b) := by unfold drs; exact (List.map_append).symm
theorem drs_snoc (a : List Int) (x : Int) : drs a ++ [.int x] = drs (a ++ [x]) := by unfold drs; rw [List.map_append]; rfl
theorem drs_three (a : List Int) (x y z : Int) : drs a ++ [.int x, .int y, .int z] = drs (a ++ [x, y, z]) := by unfold drs; rw [List.map_append]; rfl
theorem drs_rev (a : List Int) : (drs a).reverse = drs a.reverse := by unfold drs; exact (List.map_reverse).symm
theorem drs_empty (a : List Int) : (drs a).isEmpty = a.isEmpty := by cases a <;> rfl
theorem drs_nil : drs [] = [] := rfl
theorem lim_eq : LIM = 16000000 := (rfl)
theorem Dr.nil : Dr [] := fun _ h => nomatch h
theorem Dr.app {a b : List Int} (ha : Dr a) (hb : Dr b) : Dr (a ++ b) := fun i h => (List.mem_append.mp h).elim (ha i) (hb i)
theorem Dr.one {a : Int} (h0 : 0 ≤ a) (h1 : a < 1000) : Dr [a] := fun i h => by cases h with | head => exact ⟨h0, h1⟩ | tail _ h => cases h
end Z.Y
end

section
set_option Elab.async false
set_option linter.all false
set_option maxRecDepth 100000
set_option maxHeartbeats 1000000
/-! ZC: what all laws begin with: numbers, draws, picks. -/
namespace Z.Y
open PySem
open Z.Y0 (eV eA eT eI eW eD eG eAs eDs eSp eTs eAnd eOr eCs eArg eIfs xSs xS lcR forR eGs eVs eGo isMk isTs isV isStar negD zipD enuD rvsD)
local macro_rules | `(tactic| simp_arith) => `(tactic| simp -dsimp only [Nat.reduceAdd, Nat.reduceSub, Nat.reduceLT, Nat.reduceLeDiff, Nat.reduceEqDiff, Nat.reduceBEq, Int.reduceEq, Int.reduceLT, Int.reduceLE, Int.reduceAdd, Int.reduceSub, Int.reduceMul, Int.reduceNeg, String.reduceEq, String.reduceBEq, ↓reduceIte, ↓W_ok, ↓W_ex, ↓W_st, W_ite, ↓FW_ok, ↓FW_ex, ↓FW_st, FW_ite, OK_some, OK_none, OK_itn, OK_map, OK_bind, BK_t, BK_f, BK_dec, BK_not, gK_frz, gK_lst, gK_dct, aK_val, aK_plc, vK_frz, vK_lst, vK_dct, pK_frz, pK_lst, pK_dct, pK_ins, pK_exc, KS_nx, KS_rt, KS_bk, KS_ct, KL_nx, KL_ct, KL_bk, KL_rt, ↓W_bind, ↓W_pure, ↓W_stuck, ↓W_opt, ↓W_iteM, ↓W_const, ↓dOf_W, ↓aOf_W, ↓tOf_W, ↓itOf_W, ↓one_W, ↓two_W, ↓many_W, ↓blM_W, ↓eA_mk, ↓eT_mk, ↓eW_mk, ↓eI_mk, ↓eA_ts, ↓eW_ts, ↓eD_W, frzO_frz, frzO_lst, frzO_dct, frzO_ins, frzO_exc, ↓eV_var, ↓eA_var, ↓eW_var, ↓eT_var, ↓eI_var, ↓eV_non, ↓eV_bl, ↓eV_int, ↓eV_str, ↓eV_glb, ↓eV_bin, ↓eV_neg, ↓eT_nt, ↓eV_nt, ↓eV_band, ↓eV_bor, ↓eT_band, ↓eT_bor, ↓eAnd_one, ↓eAnd_cons, ↓eOr_one, ↓eOr_cons, ↓eTs_nil, ↓eTs_and, ↓eTs_or, ↓eT_cmp, ↓eV_cmp, ↓eT_chn, ↓eV_chn, ↓eV_ife, ↓eAs_nil, ↓eAs_cons, ↓eDs_nil, ↓eDs_cons, ↓eSp_nil, ↓eSp_cons, ↓eSp_star, ↓eCs_nil, ↓eCs_cons, ↓eCs_nof, ↓eArg_lent, qK_frz, qK_lst, qK_dct, qK_exc, ↓eArg_var, ↓eArg_oth, gets_nil, gets_cons, ↓doCall_W, ↓eV_call, ↓eV_calle, getOs_nil, getOs_cons, getO_val, getO_plc, ↓eV_bi1, ↓eV_bi2, ↓eV_bi0, ↓eV_isi, ↓eI_range, ↓eI_zip, ↓eI_enum, ↓eI_rev, ↓eV_plain, mK_lst, ↓eV_mut, ↓eV_sub, oK_none, intK_int, oK_some, ↓eV_slc, ↓eV_rev, ↓eV_lst, ↓eV_tup, ↓eG_var, ↓eGs_nil, ↓eGs_cons, tK_tup, ↓eG_tup, ↓eG_sub, ↓xSs_nil, ↓xSs_cons, ↓xS_asg, ↓eVs_nil, ↓eVs_cons, ↓eGo_nil, ↓eGo_cons, ↓xS_asg2, ↓xS_retv, ↓xS_ret, ↓xS_retn, ↓xS_ifs, ↓xS_for, ↓forR_nil, ↓xS_brk, ↓xS_cnt, ↓xS_pas, ↓xS_expr, ↓xS_rais, ↓xS_try, ↓eIfs_nil, ↓eIfs_cons, ↓eV_lc, ↓lcR_nil, ofString_eq, ofString_beq, ↓isWalk_len, ↓isIsi_len, ↓isWalk_int, ↓isIsi_int, ↓isWalk_abs, ↓isIsi_abs, ↓isWalk_all, ↓isIsi_all, ↓isWalk_any, ↓isIsi_any, ↓isWalk_sum, ↓isIsi_sum, ↓isWalk_tuple, ↓isIsi_tuple, ↓isWalk_list, ↓isIsi_list, ↓isWalk_sorted, ↓isIsi_sorted, ↓isWalk_min, ↓isIsi_min, ↓isWalk_max, ↓isIsi_max, ↓isWalk_repr, ↓isIsi_repr, ↓isWalk_str, ↓isIsi_str, ↓isWalk_dict, ↓isIsi_dict, ↓isWalk_isinstance, ↓isIsi_isinstance, ↓biD_len, ↓biD_int, ↓biD_abs, ↓biD_all, ↓biD_any, ↓biD_sum, ↓biD_tuple, ↓biD_list, ↓biD_sorted, ↓biD_min, ↓biD_max, ↓biD_repr, ↓biD_str, ↓biD_dict, ↓isIv_index, ↓isMut_index, ↓isIv_count, ↓isMut_count, ↓isIv_get, ↓isMut_get, ↓isIv_join, ↓isMut_join, ↓isIv_split, ↓isMut_split, ↓isIv_startswith, ↓isMut_startswith, ↓isIv_endswith, ↓isMut_endswith, ↓isIv_append, ↓isMut_append, ↓isIv_extend, ↓isMut_extend, ↓isIv_reverse, ↓isMut_reverse, ↓isIv_pop, ↓isMut_pop, ↓isIv_insert, ↓isMut_insert, ↓isPl_index, ↓methD_index, ↓kindM_index_lst, ↓kindM_index_str, ↓isPl_count, ↓methD_count, ↓kindM_count_lst, ↓kindM_count_str, ↓isPl_get, ↓methD_get, ↓kindM_get_lst, ↓kindM_get_str, ↓isPl_join, ↓methD_join, ↓kindM_join_lst, ↓kindM_join_str, ↓isPl_split, ↓methD_split, ↓kindM_split_lst, ↓kindM_split_str, ↓isPl_startswith, ↓methD_startswith, ↓kindM_startswith_lst, ↓kindM_startswith_str, ↓isPl_endswith, ↓methD_endswith, ↓kindM_endswith_lst, ↓kindM_endswith_str, ↓mutD_append, ↓mutD_extend, ↓mutD_reverse, ↓mutD_pop, ↓mutD_insert, ↓bi_len_tup, ↓bi_len_lst, ↓bi_len_str, ↓bi_int_int, ↓bi_int_bl, ↓bi_int_str, ↓bi_abs_int, ↓bi_all_lst, ↓bi_any_lst, ↓bi_sum_lst, ↓bi_sum_tup, ↓bi_tuple_lst, ↓bi_tuple_tup, ↓bi_list_lst, ↓bi_list_tup, ↓bi_sorted_lst, ↓bi_sorted_tup, ↓bi_min_two, ↓bi_max_two, ↓bi_min_lst, ↓bi_max_lst, ↓bi_repr_one, ↓bi_str_int, ↓bi_str_str, ↓mt_index_lst, ↓mt_count_lst, ↓mt_join_lst, ↓mt_split_str, ↓mt_startswith_str, ↓mt_endswith_str, ↓mu_append_lst, ↓mu_extend_lst, ↓mu_reverse_lst, ↓mu_pop_lst, ↓mu_insert_lst, ↓binD_add, ↓binD_addb, ↓binD_adds, ↓binD_addt, ↓binD_addl, ↓binD_sub, ↓binD_mul, ↓binD_mull, ↓binD_fdv, ↓binD_mod, ↓binD_pow, ↓cmpD_eqs, ↓cmpD_nes, ↓cmpD_lt, ↓cmpD_lts, ↓cmpD_le, ↓cmpD_les, ↓cmpD_gt, ↓cmpD_ge, ↓cmpD_is, ↓cmpD_isn, ↓cmpD_isb, ↓cmpD_isnb, ↓cmpD_eqi, ↓cmpD_nei, ↓cmpD_in, ↓cmpD_nin, ↓subD_tup, ↓subD_lst, ↓subD_str, ↓slcD_tup, ↓slcD_lst, ↓slcD_str, ↓itemsD_tup, ↓itemsD_lst, ↓itemsD_str, ↓itemsD_scr, ↓revD_tup, ↓revD_lst, ↓negD_int, ↓tru_non, ↓tru_bl, ↓tru_int, ↓tru_str, ↓tru_tup, ↓tru_lst, ↓isNon_non, ↓isNon_bl, ↓isNon_int, ↓isNon_str, ↓isNon_tup, ↓isNon_lst, ↓isiD_non, ↓isiD_bl_int, ↓isiD_bl_bool, ↓isiD_bl_str, ↓isiD_bl_tuple, ↓isiD_bl_list, ↓isiD_bl_dict, ↓isiD_int_int, ↓isiD_int_bool, ↓isiD_int_str, ↓isiD_int_tuple, ↓isiD_int_list, ↓isiD_int_dict, ↓isiD_str_int, ↓isiD_str_bool, ↓isiD_str_str, ↓isiD_str_tuple, ↓isiD_str_list, ↓isiD_str_dict, ↓isiD_tup_int, ↓isiD_tup_bool, ↓isiD_tup_str, ↓isiD_tup_tuple, ↓isiD_tup_list, ↓isiD_tup_dict, ↓isiD_lst_int, ↓isiD_lst_bool, ↓isiD_lst_str, ↓isiD_lst_tuple, ↓isiD_lst_list, ↓isiD_lst_dict, ↓getO_zero, ↓getO_succ, ↓set_zero, ↓set_succ, ↓wipe_nil, ↓wipe_cons, ↓back_nil, ↓back_cons, ↓lb_lent, ↓lb_keep, ↓lb_val, ↓lb_nil, ↓lb_nof, ↓ol_nil, ↓ol_val, ↓ol_lent, ↓ol_exc, ↓tail_c, ↓tail_n, ↓plcs_nil, ↓plcs_val, ↓plcs_plc, ↓nodup_nil, ↓nodup_one, ↓outs_nil, ↓outs_frz, ↓outs_exc, ↓ownO_lst, ↓ownO_dct, ↓ownO_ins, ↓outs_lst, ↓outs_dct, ↓outs_ins, all_id, any_id, blsD_map, intsD_map, strsD_map, strsD_str, ↓isV_non, ↓isStar_non, ↓isMk_non, ↓isTs_non, ↓isTup2l_non, ↓isTup2r_non, ↓isV_bl, ↓isStar_bl, ↓isMk_bl, ↓isTs_bl, ↓isTup2l_bl, ↓isTup2r_bl, ↓isV_int, ↓isStar_int, ↓isMk_int, ↓isTs_int, ↓isTup2l_int, ↓isTup2r_int, ↓isV_str, ↓isStar_str, ↓isMk_str, ↓isTs_str, ↓isTup2l_str, ↓isTup2r_str, ↓isV_var, ↓isStar_var, ↓isMk_var, ↓isTs_var, ↓isTup2l_var, ↓isTup2r_var, ↓isV_glb, ↓isStar_glb, ↓isMk_glb, ↓isTs_glb, ↓isTup2l_glb, ↓isTup2r_glb, ↓isV_bin, ↓isStar_bin, ↓isMk_bin, ↓isTs_bin, ↓isTup2l_bin, ↓isTup2r_bin, ↓isV_neg, ↓isStar_neg, ↓isMk_neg, ↓isTs_neg, ↓isTup2l_neg, ↓isTup2r_neg, ↓isV_nt, ↓isStar_nt, ↓isMk_nt, ↓isTs_nt, ↓isTup2l_nt, ↓isTup2r_nt, ↓isV_band, ↓isStar_band, ↓isMk_band, ↓isTs_band, ↓isTup2l_band, ↓isTup2r_band, ↓isV_bor, ↓isStar_bor, ↓isMk_bor, ↓isTs_bor, ↓isTup2l_bor, ↓isTup2r_bor, ↓isV_cmp, ↓isStar_cmp, ↓isMk_cmp, ↓isTs_cmp, ↓isTup2l_cmp, ↓isTup2r_cmp, ↓isV_chn, ↓isStar_chn, ↓isMk_chn, ↓isTs_chn, ↓isTup2l_chn, ↓isTup2r_chn, ↓isV_chn3, ↓isStar_chn3, ↓isMk_chn3, ↓isTs_chn3, ↓isTup2l_chn3, ↓isTup2r_chn3, ↓isV_ife, ↓isStar_ife, ↓isMk_ife, ↓isTs_ife, ↓isTup2l_ife, ↓isTup2r_ife, ↓isV_call, ↓isStar_call, ↓isMk_call, ↓isTs_call, ↓isTup2l_call, ↓isTup2r_call, ↓isV_bi, ↓isStar_bi, ↓isMk_bi, ↓isTs_bi, ↓isTup2l_bi, ↓isTup2r_bi, ↓isV_calle, ↓isStar_calle, ↓isMk_calle, ↓isTs_calle, ↓isTup2l_calle, ↓isTup2r_calle, ↓isV_meth, ↓isStar_meth, ↓isMk_meth, ↓isTs_meth, ↓isTup2l_meth, ↓isTup2r_meth, ↓isV_attr, ↓isStar_attr, ↓isMk_attr, ↓isTs_attr, ↓isTup2l_attr, ↓isTup2r_attr, ↓isV_sub, ↓isStar_sub, ↓isMk_sub, ↓isTs_sub, ↓isTup2l_sub, ↓isTup2r_sub, ↓isV_slc, ↓isStar_slc, ↓isMk_slc, ↓isTs_slc, ↓isTup2l_slc, ↓isTup2r_slc, ↓isV_lst, ↓isStar_lst, ↓isMk_lst, ↓isTs_lst, ↓isTup2l_lst, ↓isTup2r_lst, ↓isV_tup, ↓isStar_tup, ↓isMk_tup, ↓isTs_tup, ↓isV_star, ↓isStar_star, ↓isMk_star, ↓isTs_star, ↓isTup2l_star, ↓isTup2r_star, ↓isV_dic, ↓isStar_dic, ↓isMk_dic, ↓isTs_dic, ↓isTup2l_dic, ↓isTup2r_dic, ↓isV_lc, ↓isStar_lc, ↓isMk_lc, ↓isTs_lc, ↓isTup2l_lc, ↓isTup2r_lc, ↓isV_lc2, ↓isStar_lc2, ↓isMk_lc2, ↓isTs_lc2, ↓isTup2l_lc2, ↓isTup2r_lc2, ↓isV_dc, ↓isStar_dc, ↓isMk_dc, ↓isTs_dc, ↓isTup2l_dc, ↓isTup2r_dc, ↓isWalk_range, ↓isWalk_zip, ↓isWalk_enumerate, ↓isWalk_reversed, ↓nd0, ↓nd1, ↓nd2, ↓nd3, ↓true_eq, ↓false_eq, ↓tf_eq, ↓ft_eq, ↓rep_zero, ↓rep_succ, not_t, not_f, band_t, band_f, and_tt, and_tr, and_fl, and_fr, imp_t, imp_f, imp_tt, n_t, n_f, dec_eq, dec_ne, bnot_eq, bnot_ne, band_eq, eq_self', mapc, mapn, appc, appn, lenc, lmap, lapp, lrange, cps_len, lenn, noExc_cons, noExc_nil, nx1_frz, nx1_lst, nx1_dct, nx1_ins, nx1_none, noExcR_nx, noExcR_frz, noExcR_lst, noExcR_dct, drs_len, drs_app, drs_snoc, drs_three, drs_rev, drs_empty, lim_eq])
local macro_rules | `(tactic| simp_arith [$ls:simpLemma,*]) => `(tactic| simp -dsimp only [Nat.reduceAdd, Nat.reduceSub, Nat.reduceLT, Nat.reduceLeDiff, Nat.reduceEqDiff, Nat.reduceBEq, Int.reduceEq, Int.reduceLT, Int.reduceLE, Int.reduceAdd, Int.reduceSub, Int.reduceMul, Int.reduceNeg, String.reduceEq, String.reduceBEq, ↓reduceIte, ↓W_ok, ↓W_ex, ↓W_st, W_ite, ↓FW_ok, ↓FW_ex, ↓FW_st, FW_ite, OK_some, OK_none, OK_itn, OK_map, OK_bind, BK_t, BK_f, BK_dec, BK_not, gK_frz, gK_lst, gK_dct, aK_val, aK_plc, vK_frz, vK_lst, vK_dct, pK_frz, pK_lst, pK_dct, pK_ins, pK_exc, KS_nx, KS_rt, KS_bk, KS_ct, KL_nx, KL_ct, KL_bk, KL_rt, ↓W_bind, ↓W_pure, ↓W_stuck, ↓W_opt, ↓W_iteM, ↓W_const, ↓dOf_W, ↓aOf_W, ↓tOf_W, ↓itOf_W, ↓one_W, ↓two_W, ↓many_W, ↓blM_W, ↓eA_mk, ↓eT_mk, ↓eW_mk, ↓eI_mk, ↓eA_ts, ↓eW_ts, ↓eD_W, frzO_frz, frzO_lst, frzO_dct, frzO_ins, frzO_exc, ↓eV_var, ↓eA_var, ↓eW_var, ↓eT_var, ↓eI_var, ↓eV_non, ↓eV_bl, ↓eV_int, ↓eV_str, ↓eV_glb, ↓eV_bin, ↓eV_neg, ↓eT_nt, ↓eV_nt, ↓eV_band, ↓eV_bor, ↓eT_band, ↓eT_bor, ↓eAnd_one, ↓eAnd_cons, ↓eOr_one, ↓eOr_cons, ↓eTs_nil, ↓eTs_and, ↓eTs_or, ↓eT_cmp, ↓eV_cmp, ↓eT_chn, ↓eV_chn, ↓eV_ife, ↓eAs_nil, ↓eAs_cons, ↓eDs_nil, ↓eDs_cons, ↓eSp_nil, ↓eSp_cons, ↓eSp_star, ↓eCs_nil, ↓eCs_cons, ↓eCs_nof, ↓eArg_lent, qK_frz, qK_lst, qK_dct, qK_exc, ↓eArg_var, ↓eArg_oth, gets_nil, gets_cons, ↓doCall_W, ↓eV_call, ↓eV_calle, getOs_nil, getOs_cons, getO_val, getO_plc, ↓eV_bi1, ↓eV_bi2, ↓eV_bi0, ↓eV_isi, ↓eI_range, ↓eI_zip, ↓eI_enum, ↓eI_rev, ↓eV_plain, mK_lst, ↓eV_mut, ↓eV_sub, oK_none, intK_int, oK_some, ↓eV_slc, ↓eV_rev, ↓eV_lst, ↓eV_tup, ↓eG_var, ↓eGs_nil, ↓eGs_cons, tK_tup, ↓eG_tup, ↓eG_sub, ↓xSs_nil, ↓xSs_cons, ↓xS_asg, ↓eVs_nil, ↓eVs_cons, ↓eGo_nil, ↓eGo_cons, ↓xS_asg2, ↓xS_retv, ↓xS_ret, ↓xS_retn, ↓xS_ifs, ↓xS_for, ↓forR_nil, ↓xS_brk, ↓xS_cnt, ↓xS_pas, ↓xS_expr, ↓xS_rais, ↓xS_try, ↓eIfs_nil, ↓eIfs_cons, ↓eV_lc, ↓lcR_nil, ofString_eq, ofString_beq, ↓isWalk_len, ↓isIsi_len, ↓isWalk_int, ↓isIsi_int, ↓isWalk_abs, ↓isIsi_abs, ↓isWalk_all, ↓isIsi_all, ↓isWalk_any, ↓isIsi_any, ↓isWalk_sum, ↓isIsi_sum, ↓isWalk_tuple, ↓isIsi_tuple, ↓isWalk_list, ↓isIsi_list, ↓isWalk_sorted, ↓isIsi_sorted, ↓isWalk_min, ↓isIsi_min, ↓isWalk_max, ↓isIsi_max, ↓isWalk_repr, ↓isIsi_repr, ↓isWalk_str, ↓isIsi_str, ↓isWalk_dict, ↓isIsi_dict, ↓isWalk_isinstance, ↓isIsi_isinstance, ↓biD_len, ↓biD_int, ↓biD_abs, ↓biD_all, ↓biD_any, ↓biD_sum, ↓biD_tuple, ↓biD_list, ↓biD_sorted, ↓biD_min, ↓biD_max, ↓biD_repr, ↓biD_str, ↓biD_dict, ↓isIv_index, ↓isMut_index, ↓isIv_count, ↓isMut_count, ↓isIv_get, ↓isMut_get, ↓isIv_join, ↓isMut_join, ↓isIv_split, ↓isMut_split, ↓isIv_startswith, ↓isMut_startswith, ↓isIv_endswith, ↓isMut_endswith, ↓isIv_append, ↓isMut_append, ↓isIv_extend, ↓isMut_extend, ↓isIv_reverse, ↓isMut_reverse, ↓isIv_pop, ↓isMut_pop, ↓isIv_insert, ↓isMut_insert, ↓isPl_index, ↓methD_index, ↓kindM_index_lst, ↓kindM_index_str, ↓isPl_count, ↓methD_count, ↓kindM_count_lst, ↓kindM_count_str, ↓isPl_get, ↓methD_get, ↓kindM_get_lst, ↓kindM_get_str, ↓isPl_join, ↓methD_join, ↓kindM_join_lst, ↓kindM_join_str, ↓isPl_split, ↓methD_split, ↓kindM_split_lst, ↓kindM_split_str, ↓isPl_startswith, ↓methD_startswith, ↓kindM_startswith_lst, ↓kindM_startswith_str, ↓isPl_endswith, ↓methD_endswith, ↓kindM_endswith_lst, ↓kindM_endswith_str, ↓mutD_append, ↓mutD_extend, ↓mutD_reverse, ↓mutD_pop, ↓mutD_insert, ↓bi_len_tup, ↓bi_len_lst, ↓bi_len_str, ↓bi_int_int, ↓bi_int_bl, ↓bi_int_str, ↓bi_abs_int, ↓bi_all_lst, ↓bi_any_lst, ↓bi_sum_lst, ↓bi_sum_tup, ↓bi_tuple_lst, ↓bi_tuple_tup, ↓bi_list_lst, ↓bi_list_tup, ↓bi_sorted_lst, ↓bi_sorted_tup, ↓bi_min_two, ↓bi_max_two, ↓bi_min_lst, ↓bi_max_lst, ↓bi_repr_one, ↓bi_str_int, ↓bi_str_str, ↓mt_index_lst, ↓mt_count_lst, ↓mt_join_lst, ↓mt_split_str, ↓mt_startswith_str, ↓mt_endswith_str, ↓mu_append_lst, ↓mu_extend_lst, ↓mu_reverse_lst, ↓mu_pop_lst, ↓mu_insert_lst, ↓binD_add, ↓binD_addb, ↓binD_adds, ↓binD_addt, ↓binD_addl, ↓binD_sub, ↓binD_mul, ↓binD_mull, ↓binD_fdv, ↓binD_mod, ↓binD_pow, ↓cmpD_eqs, ↓cmpD_nes, ↓cmpD_lt, ↓cmpD_lts, ↓cmpD_le, ↓cmpD_les, ↓cmpD_gt, ↓cmpD_ge, ↓cmpD_is, ↓cmpD_isn, ↓cmpD_isb, ↓cmpD_isnb, ↓cmpD_eqi, ↓cmpD_nei, ↓cmpD_in, ↓cmpD_nin, ↓subD_tup, ↓subD_lst, ↓subD_str, ↓slcD_tup, ↓slcD_lst, ↓slcD_str, ↓itemsD_tup, ↓itemsD_lst, ↓itemsD_str, ↓itemsD_scr, ↓revD_tup, ↓revD_lst, ↓negD_int, ↓tru_non, ↓tru_bl, ↓tru_int, ↓tru_str, ↓tru_tup, ↓tru_lst, ↓isNon_non, ↓isNon_bl, ↓isNon_int, ↓isNon_str, ↓isNon_tup, ↓isNon_lst, ↓isiD_non, ↓isiD_bl_int, ↓isiD_bl_bool, ↓isiD_bl_str, ↓isiD_bl_tuple, ↓isiD_bl_list, ↓isiD_bl_dict, ↓isiD_int_int, ↓isiD_int_bool, ↓isiD_int_str, ↓isiD_int_tuple, ↓isiD_int_list, ↓isiD_int_dict, ↓isiD_str_int, ↓isiD_str_bool, ↓isiD_str_str, ↓isiD_str_tuple, ↓isiD_str_list, ↓isiD_str_dict, ↓isiD_tup_int, ↓isiD_tup_bool, ↓isiD_tup_str, ↓isiD_tup_tuple, ↓isiD_tup_list, ↓isiD_tup_dict, ↓isiD_lst_int, ↓isiD_lst_bool, ↓isiD_lst_str, ↓isiD_lst_tuple, ↓isiD_lst_list, ↓isiD_lst_dict, ↓getO_zero, ↓getO_succ, ↓set_zero, ↓set_succ, ↓wipe_nil, ↓wipe_cons, ↓back_nil, ↓back_cons, ↓lb_lent, ↓lb_keep, ↓lb_val, ↓lb_nil, ↓lb_nof, ↓ol_nil, ↓ol_val, ↓ol_lent, ↓ol_exc, ↓tail_c, ↓tail_n, ↓plcs_nil, ↓plcs_val, ↓plcs_plc, ↓nodup_nil, ↓nodup_one, ↓outs_nil, ↓outs_frz, ↓outs_exc, ↓ownO_lst, ↓ownO_dct, ↓ownO_ins, ↓outs_lst, ↓outs_dct, ↓outs_ins, all_id, any_id, blsD_map, intsD_map, strsD_map, strsD_str, ↓isV_non, ↓isStar_non, ↓isMk_non, ↓isTs_non, ↓isTup2l_non, ↓isTup2r_non, ↓isV_bl, ↓isStar_bl, ↓isMk_bl, ↓isTs_bl, ↓isTup2l_bl, ↓isTup2r_bl, ↓isV_int, ↓isStar_int, ↓isMk_int, ↓isTs_int, ↓isTup2l_int, ↓isTup2r_int, ↓isV_str, ↓isStar_str, ↓isMk_str, ↓isTs_str, ↓isTup2l_str, ↓isTup2r_str, ↓isV_var, ↓isStar_var, ↓isMk_var, ↓isTs_var, ↓isTup2l_var, ↓isTup2r_var, ↓isV_glb, ↓isStar_glb, ↓isMk_glb, ↓isTs_glb, ↓isTup2l_glb, ↓isTup2r_glb, ↓isV_bin, ↓isStar_bin, ↓isMk_bin, ↓isTs_bin, ↓isTup2l_bin, ↓isTup2r_bin, ↓isV_neg, ↓isStar_neg, ↓isMk_neg, ↓isTs_neg, ↓isTup2l_neg, ↓isTup2r_neg, ↓isV_nt, ↓isStar_nt, ↓isMk_nt, ↓isTs_nt, ↓isTup2l_nt, ↓isTup2r_nt, ↓isV_band, ↓isStar_band, ↓isMk_band, ↓isTs_band, ↓isTup2l_band, ↓isTup2r_band, ↓isV_bor, ↓isStar_bor, ↓isMk_bor, ↓isTs_bor, ↓isTup2l_bor, ↓isTup2r_bor, ↓isV_cmp, ↓isStar_cmp, ↓isMk_cmp, ↓isTs_cmp, ↓isTup2l_cmp, ↓isTup2r_cmp, ↓isV_chn, ↓isStar_chn, ↓isMk_chn, ↓isTs_chn, ↓isTup2l_chn, ↓isTup2r_chn, ↓isV_chn3, ↓isStar_chn3, ↓isMk_chn3, ↓isTs_chn3, ↓isTup2l_chn3, ↓isTup2r_chn3, ↓isV_ife, ↓isStar_ife, ↓isMk_ife, ↓isTs_ife, ↓isTup2l_ife, ↓isTup2r_ife, ↓isV_call, ↓isStar_call, ↓isMk_call, ↓isTs_call, ↓isTup2l_call, ↓isTup2r_call, ↓isV_bi, ↓isStar_bi, ↓isMk_bi, ↓isTs_bi, ↓isTup2l_bi, ↓isTup2r_bi, ↓isV_calle, ↓isStar_calle, ↓isMk_calle, ↓isTs_calle, ↓isTup2l_calle, ↓isTup2r_calle, ↓isV_meth, ↓isStar_meth, ↓isMk_meth, ↓isTs_meth, ↓isTup2l_meth, ↓isTup2r_meth, ↓isV_attr, ↓isStar_attr, ↓isMk_attr, ↓isTs_attr, ↓isTup2l_attr, ↓isTup2r_attr, ↓isV_sub, ↓isStar_sub, ↓isMk_sub, ↓isTs_sub, ↓isTup2l_sub, ↓isTup2r_sub, ↓isV_slc, ↓isStar_slc, ↓isMk_slc, ↓isTs_slc, ↓isTup2l_slc, ↓isTup2r_slc, ↓isV_lst, ↓isStar_lst, ↓isMk_lst, ↓isTs_lst, ↓isTup2l_lst, ↓isTup2r_lst, ↓isV_tup, ↓isStar_tup, ↓isMk_tup, ↓isTs_tup, ↓isV_star, ↓isStar_star, ↓isMk_star, ↓isTs_star, ↓isTup2l_star, ↓isTup2r_star, ↓isV_dic, ↓isStar_dic, ↓isMk_dic, ↓isTs_dic, ↓isTup2l_dic, ↓isTup2r_dic, ↓isV_lc, ↓isStar_lc, ↓isMk_lc, ↓isTs_lc, ↓isTup2l_lc, ↓isTup2r_lc, ↓isV_lc2, ↓isStar_lc2, ↓isMk_lc2, ↓isTs_lc2, ↓isTup2l_lc2, ↓isTup2r_lc2, ↓isV_dc, ↓isStar_dc, ↓isMk_dc, ↓isTs_dc, ↓isTup2l_dc, ↓isTup2r_dc, ↓isWalk_range, ↓isWalk_zip, ↓isWalk_enumerate, ↓isWalk_reversed, ↓nd0, ↓nd1, ↓nd2, ↓nd3, ↓true_eq, ↓false_eq, ↓tf_eq, ↓ft_eq, ↓rep_zero, ↓rep_succ, not_t, not_f, band_t, band_f, and_tt, and_tr, and_fl, and_fr, imp_t, imp_f, imp_tt, n_t, n_f, dec_eq, dec_ne, bnot_eq, bnot_ne, band_eq, eq_self', mapc, mapn, appc, appn, lenc, lmap, lapp, lrange, cps_len, lenn, noExc_cons, noExc_nil, nx1_frz, nx1_lst, nx1_dct, nx1_ins, nx1_none, noExcR_nx, noExcR_frz, noExcR_lst, noExcR_dct, drs_len, drs_app, drs_snoc, drs_three, drs_rev, drs_empty, lim_eq, $ls,*])
def c_law_number : Fn := ⟨"_law_number", 1, ["cell"], [false], [.ifs (.cmp .lt (.var 0 "cell" p0) (.int 0 0 p0) p0) [.ret (.bin .sub (.int 0 0 p0) (.var 0 "cell" p0) p0) p0] [] p0,
  .ret (.var 0 "cell" p0) p0]⟩
def c_law_draws : Fn := ⟨"_law_draws", 1, ["script", "draws", "cell", "rest", "k", "once", "twice"], [false], [.asg (.var 1 "draws" p0) (.lst [] p0) p0,
  .fors (.var 2 "cell" p0) (.var 0 "script" p0) [.asg (.var 3 "rest" p0) (.call "_law_number" [.var 2 "cell" p0] p0 p0) p0,
  .ifs (.cmp .ge (.var 3 "rest" p0) (.int 1000000000000000000 0 p0) p0) [.fors (.var 4 "k" p0) (.bi "range" [.int 60 0 p0] p0 p0) [.ifs (.cmp .eq (.var 3 "rest" p0) (.int 0 0 p0) p0) [.brk p0] [] p0,
  .expr (.meth (.var 1 "draws" p0) "append" [.bin .mod (.bi "int" [.var 3 "rest" p0] p0 p0) (.int 1000 0 p0) p0] p0 p0) p0,
  .asg (.var 3 "rest" p0) (.bin .fdv (.var 3 "rest" p0) (.int 1000 0 p0) p0) p0] p0] [.asg (.var 5 "once" p0) (.bin .mod (.bi "int" [.bin .add (.bin .mul (.var 3 "rest" p0) (.int 48271 0 p0) p0) (.int 11 0 p0) p0] p0 p0) (.int 2147483647 0 p0) p0) p0,
  .asg (.var 6 "twice" p0) (.bin .mod (.bi "int" [.bin .add (.bin .mul (.var 5 "once" p0) (.int 69621 0 p0) p0) (.var 3 "rest" p0) p0] p0 p0) (.int 2147483629 0 p0) p0) p0,
  .expr (.meth (.var 1 "draws" p0) "extend" [.lst [.bin .mod (.bi "int" [.var 3 "rest" p0] p0 p0) (.int 1000 0 p0) p0, .bin .mod (.bi "int" [.var 5 "once" p0] p0 p0) (.int 1000 0 p0) p0, .bin .mod (.bi "int" [.var 6 "twice" p0] p0 p0) (.int 1000 0 p0) p0] p0] p0 p0) p0] p0] p0,
  .expr (.meth (.var 1 "draws" p0) "reverse" [] p0 p0) p0,
  .ret (.var 1 "draws" p0) p0]⟩
def c_law_next : Fn := ⟨"_law_next", 1, ["draws"], [true], [.ifs (.var 0 "draws" p0) [.ret (.meth (.var 0 "draws" p0) "pop" [] p0 p0) p0] [] p0,
  .ret (.int 0 0 p0) p0]⟩
def c_law_more : Fn := ⟨"_law_more", 2, ["draws", "many", "seed", "more", "k"], [true, false], [.asg (.var 2 "seed" p0) (.bin .add (.bin .add (.bin .mul (.int 1000 0 p0) (.call "_law_next" [.var 0 "draws" p0] p0 p0) p0) (.call "_law_next" [.var 0 "draws" p0] p0 p0) p0) (.int 1 0 p0) p0) p0,
  .asg (.var 3 "more" p0) (.lst [] p0) p0,
  .fors (.var 4 "k" p0) (.bi "range" [.var 1 "many" p0] p0 p0) [.asg (.var 2 "seed" p0) (.bin .mod (.bi "int" [.bin .add (.bin .mul (.var 2 "seed" p0) (.int 48271 0 p0) p0) (.int 12345 0 p0) p0] p0 p0) (.int 2147483647 0 p0) p0) p0,
  .expr (.meth (.var 3 "more" p0) "append" [.bin .mod (.bi "int" [.bin .fdv (.var 2 "seed" p0) (.int 7 0 p0) p0] p0 p0) (.int 1000 0 p0) p0] p0 p0) p0] p0,
  .ret (.bin .add (.var 3 "more" p0) (.var 0 "draws" p0) p0) p0]⟩
def c_law_pick : Fn := ⟨"_law_pick", 2, ["draws", "some"], [true, false], [.ret (.sub (.var 1 "some" p0) (.bin .mod (.bi "int" [.call "_law_next" [.var 0 "draws" p0] p0 p0] p0 p0) (.bi "len" [.var 1 "some" p0] p0 p0) p0) p0) p0]⟩
section
variable {P : Prog}
theorem len_of {P : Prog} {x : Str} {f : Fn} (h : P.fns.lookup x = some f) (n : Nat) : (P.cxt (P.call n)).lent x = f.lent := by
  show (match P.fns.lookup x with | some f => f.lent | none => []) = f.lent
  rw [h]
theorem len_next {P : Prog} (h : Lk P "_law_next" c_law_next) (n : Nat) : (P.cxt (P.call n)).lent "_law_next" = [true] := len_of h n
theorem len_number {P : Prog} (h : Lk P "_law_number" c_law_number) (n : Nat) : (P.cxt (P.call n)).lent "_law_number" = [false] := len_of h n
theorem len_pick {P : Prog} (h : Lk P "_law_pick" c_law_pick) (n : Nat) : (P.cxt (P.call n)).lent "_law_pick" = [true, false] := len_of h n
theorem call_cx {P : Prog} (n : Nat) (x : Str) (os : List O) : (P.cxt (P.call n)).call x os = P.call n x os := rfl
theorem number {n : Nat} (hn : 0 < n) (hf : Lk P "_law_number" c_law_number) (i : Int) : P.call n "_law_number" [.frz (.int i)] = .ok (.frz (.int (i.natAbs : Int))) [.frz (.int i)] := by
  refine FW_eq (call_W hn hf rfl fun m _ => ?_)
  simp only [c_law_number]
  simp_arith
  refine ⟨fun h => ?_, fun h => ?_⟩
  · congr 2; omega
  · congr 2; omega
/-- what a draw gives -/
def nextQ (ns : List Int) (r : O) (os : List O) : Prop := ∃ (i : Int) (ms : List Int), r = .frz (.int i) ∧ os = [.lst (drs ms)] ∧ 0 ≤ i ∧ i < 1000 ∧ Dr ms ∧ ms.length ≤ ns.length
theorem next {n : Nat} (hn : 0 < n) (hf : Lk P "_law_next" c_law_next) {ns : List Int} (h : Dr ns) : FW (P.call n "_law_next" [.lst (drs ns)]) (nextQ ns) (fun _ _ => False) := by
  refine call_W hn hf rfl fun m _ => ?_
  simp only [c_law_next]
  simp_arith
  cases hq : ns.getLast? with
  | none =>
    obtain rfl : ns = [] := List.getLast?_eq_none_iff.mp hq
    simp_arith [List.isEmpty, drs_nil]
    exact ⟨0, [], rfl, rfl, by decide, by decide, Dr.nil, Nat.le_refl _⟩
  | some i =>
    obtain ⟨ys, rfl⟩ := List.getLast?_eq_some_iff.mp hq
    have e : (ys ++ [i]).isEmpty = false := by cases ys <;> rfl
    have e2 : (drs (ys ++ [i])).getLast? = some (.int i) := by rw [← drs_snoc]; simp
    have e3 : (drs (ys ++ [i])).dropLast = drs ys := by rw [← drs_snoc]; simp
    simp_arith [e, e2, e3]
    have hi := h i (by simp)
    exact ⟨i, ys, rfl, rfl, hi.1, hi.2, fun j hj => h j (by simp [hj]), by simp⟩
/-- one of a list is picked -/
def pickQ (ns : List Int) (xs : List D) (a : D) (r : O) (os : List O) : Prop := ∃ (x : D) (ms : List Int), r = .frz x ∧ x ∈ xs ∧ os = [.lst (drs ms), .frz a] ∧ Dr ms ∧ ms.length ≤ ns.length
theorem pick {n : Nat} (hn : 1 < n) (hf : Lk P "_law_next" c_law_next) (hp : Lk P "_law_pick" c_law_pick) {ns : List Int} (h : Dr ns) {xs : List D} (hx : xs ≠ []) :
    FW (P.call n "_law_pick" [.lst (drs ns), .frz (.lst xs)]) (pickQ ns xs (.lst xs)) (fun _ _ => False) := by
  refine call_W (by omega) hp rfl fun m _ => ?_
  simp only [c_law_pick]
  simp_arith [len_next hf, call_cx]
  refine FW_mono (next (by omega) hf h) ?_ (fun _ _ h => h.elim)
  rintro _ _ ⟨i, ms, rfl, rfl, h0, h1, hm, hl⟩
  have hp : 0 < xs.length := by cases xs with | nil => exact absurd rfl hx | cons _ _ => simp
  have hne : (xs.length : Int) ≠ 0 := by omega
  have hfm := fmod_nn (i := i) (j := xs.length) (by omega)
  have hj : (i.fmod xs.length).toNat < xs.length := by omega
  simp_arith [len_next hf, hne, ixN_ok hfm.1 hfm.2, List.getElem?_eq_getElem hj]
  exact ⟨_, ms, rfl, List.getElem_mem hj, rfl, hm, hl⟩
theorem picktQ' : True := trivial
/-- a list of drawn numbers more -/
def moreQ (k : Nat) (r : O) (os : List O) : Prop := ∃ (ms ns : List Int), r = .lst (drs ms) ∧ os = [.lst (drs ns), .frz (.int k)] ∧ Dr ms ∧ Dr ns ∧ ms.length ≤ k + 10000
theorem more {n : Nat} (hn : 1 < n) (hf : Lk P "_law_next" c_law_next) (hp : Lk P "_law_more" c_law_more) {ns : List Int} (h : Dr ns) (hl : ns.length ≤ 10000) {k : Nat} (hk : k ≤ 10000) :
    FW (P.call n "_law_more" [.lst (drs ns), .frz (.int k)]) (moreQ k) (fun _ _ => False) := by
  refine call_W (by omega) hp rfl fun m _ => ?_
  simp only [c_law_more]
  simp_arith [len_next hf, call_cx]
  refine FW_mono (next (by omega) hf h) ?_ (fun _ _ h => h.elim)
  rintro _ _ ⟨i, ms, rfl, rfl, h0, h1, hm, hl⟩
  simp_arith [len_next hf, call_cx]
  refine ⟨mulOk_of 10 10 (by omega) (by omega) (by omega), FW_mono (next (by omega) hf hm) ?_ (fun _ _ h => h.elim)⟩
  intro r os hq
  obtain ⟨j, ns2, e1, e2, h2, h3, hm2, hl2⟩ := hq
  subst e2
  subst e1
  simp_arith [len_next hf, rng1 (show -(2 ^ 60) ≤ (k : Int) by omega) (show (k : Int) < 2 ^ 60 by omega), Int.toNat_natCast]
  refine forT _ _ (fun dn s => ∃ (a : Int) (ms : List Int) (j : Option O), s = [some (.lst (drs ns2)), some (.frz (.int k)), some (.frz (.int a)), some (.lst (drs ms)), j] ∧ 0 ≤ a ∧ a < 2147483647 ∧ Dr ms ∧ ms.length = dn.length) ?_ ?_ ?_
  · exact ⟨_, [], none, rfl, by omega, by omega, Dr.nil, rfl⟩
  · rintro dn x rs _ e ⟨a, ms, j, rfl, ha, hb, hd, hl⟩
    simp_arith
    have hdn : dn.length < k := by have := congrArg List.length e; simp at this; omega
    have f1 := fmod_nn (i := a * 48271 + 12345) (j := 2147483647) (by omega)
    have f2 := fmod_nn (i := (a * 48271 + 12345).fmod 2147483647 / 7) (j := 1000) (by omega)
    refine ⟨mulOk_of 32 32 (by omega) (by omega) (by omega), divOk_of 32 (by omega) (by omega) (by omega), by omega, _, ms ++ [_], _, rfl, f1.1, f1.2, hd.app (.one f2.1 f2.2), by simp [hl]⟩
  · rintro _ ⟨a, ms, j, rfl, ha, hb, hd, hl⟩
    simp_arith
    rw [List.length_range] at hl
    refine ⟨by omega, ms ++ ns2, ns2, rfl, rfl, hd.app hm2, hm2, by rw [List.length_append]; omega⟩
/-- the numbers drawn of a script -/
def drawsQ (k : Nat) (sc : D) (r : O) (os : List O) : Prop := ∃ (ms : List Int), r = .lst (drs ms) ∧ os = [.frz sc] ∧ Dr ms ∧ ms.length ≤ 60 * k
theorem draws {n : Nat} (hn : 1 < n) (hf : Lk P "_law_number" c_law_number) (hp : Lk P "_law_draws" c_law_draws) {ns : List Int} (hl : ns.length ≤ 63) :
    FW (P.call n "_law_draws" [.frz (.scr ns)]) (drawsQ ns.length (.scr ns)) (fun _ _ => False) := by
  refine call_W (by omega) hp rfl fun m _ => ?_
  simp only [c_law_draws]
  simp_arith
  refine forT _ _ (fun dn s => ∃ (ms : List Int) (j1 j2 j3 j4 j5 : Option O), s = [some (.frz (.scr ns)), some (.lst (drs ms)), j1, j2, j3, j4, j5] ∧ Dr ms ∧ ms.length ≤ 60 * dn.length) ?_ ?_ ?_
  · exact ⟨[], _, _, _, _, _, rfl, Dr.nil, Nat.le_refl _⟩
  · rintro dn x rs _ e ⟨ms, j1, j2, j3, j4, j5, rfl, hd, hl2⟩
    have hdn : dn.length + 1 ≤ 63 := by have := congrArg List.length e; simp at this; omega
    simp_arith [len_number hf, call_cx, number (show 0 < m by omega) hf x]
    refine ⟨fun hb => ?_, fun hb => ?_⟩
    · rw [rng1 (by omega) (by omega)]
      simp_arith
      refine forT _ _ (fun d2 s => ∃ (ms : List Int) (a : Int) (j : Option O), s = [some (.frz (.scr ns)), some (.lst (drs ms)), some (.frz (.int x)), some (.frz (.int a)), j, j4, j5] ∧ Dr ms ∧ ms.length ≤ 60 * dn.length + d2.length) ?_ ?_ ?_
      · exact ⟨ms, _, j3, rfl, hd, by first | omega | (simp; omega)⟩
      · rintro d2 y r2 _ e2 ⟨ms, a, j, rfl, hd, hl2⟩
        have hd2 : d2.length < 60 := by have := congrArg List.length e2; simp at this; omega
        have f2 := fmod_nn (i := a) (j := 1000) (by omega)
        simp_arith
        refine ⟨fun _ => ⟨ms, _, _, _, _, _, rfl, hd, by first | omega | (simp; omega)⟩, fun _ => ⟨by omega, divOk_of 32 (by omega) (by omega) (by omega), _, _, _, rfl, hd.app (.one f2.1 f2.2), by first | omega | (simp; omega)⟩⟩
      · rintro _ ⟨ms, a, j, rfl, hd, hl2⟩
        simp_arith
        refine ⟨ms, _, _, _, _, _, rfl, hd, ?_⟩
        rw [List.length_range] at hl2
        omega
    · have f1 := fmod_nn (i := (x.natAbs : Int)) (j := 1000) (by omega)
      have f2 := fmod_nn (i := ((x.natAbs : Int) * 48271 + 11)) (j := 2147483647) (by omega)
      have f3 := fmod_nn (i := ((x.natAbs : Int) * 48271 + 11).fmod 2147483647) (j := 1000) (by omega)
      have f4 := fmod_nn (i := ((((x.natAbs : Int) * 48271 + 11).fmod 2147483647 * 69621 + x.natAbs).fmod 2147483629)) (j := 1000) (by omega)
      refine ⟨mulOk_of 64 32 (by omega) (by omega) (by omega), mulOk_of 32 32 (by omega) (by omega) (by omega), by omega, _, _, _, _, _, _, rfl, ?_, by first | omega | (simp; omega)⟩
      exact hd.app (fun i h => by
        simp only [List.mem_cons, List.not_mem_nil, or_false] at h
        rcases h with rfl | rfl | rfl
        · exact f1
        · exact f3
        · exact f4)
  · rintro _ ⟨ms, j1, j2, j3, j4, j5, rfl, hd, hl2⟩
    simp_arith
    refine ⟨ms.reverse, rfl, rfl, fun i h => hd i (by simpa using h), by simpa using hl2⟩
end
end Z.Y
end

section
set_option Elab.async false
set_option linter.all false
set_option maxRecDepth 100000
set_option maxHeartbeats 1000000
/-! ZRp: repr and == of data of bounded size. -/
namespace Z.Y
open PySem
mutual
def rOk (k : Nat) : D → Bool
  | .non => true
  | .bl _ => true
  | .int i => decide (i.natAbs < 10 ^ k)
  | .str s => s.cps.all (· < 0x110000)
  | .tup xs => rOks k xs
  | .lst xs => rOks k xs
  | _ => false
def rOks (k : Nat) : List D → Bool
  | [] => true
  | x :: r => rOk k x && rOks k r
end
mutual
def szD : D → Nat
  | .str s => s.cps.size
  | .tup xs => szDs xs
  | .lst xs => szDs xs
  | _ => 0
def szDs : List D → Nat
  | [] => 0
  | x :: r => szD x + 1 + szDs r
end
mutual
theorem rOk_plain {k : Nat} : ∀ d : D, rOk k d = true → d.plain = true ∧ okS d = true
  | .non, _ => ⟨rfl, rfl⟩
  | .bl _, _ => ⟨rfl, rfl⟩
  | .int _, _ => ⟨rfl, rfl⟩
  | .str s, h => ⟨rfl, by simpa only [okS, rOk] using h⟩
  | .tup xs, h => by simp only [D.plain, okS]; exact rOks_plain xs (by simpa only [rOk] using h)
  | .lst xs, h => by simp only [D.plain, okS]; exact rOks_plain xs (by simpa only [rOk] using h)
  | .dct _, h => by simp only [rOk] at h; exact nomatch h
  | .fn _, h => by simp only [rOk] at h; exact nomatch h
  | .scr _, h => by simp only [rOk] at h; exact nomatch h
theorem rOks_plain {k : Nat} : ∀ xs : List D, rOks k xs = true → D.plains xs = true ∧ okSs xs = true
  | [], _ => ⟨rfl, rfl⟩
  | x :: r, h => by
    rw [rOks, Bool.and_eq_true] at h
    have a := rOk_plain x h.1
    have b := rOks_plain r h.2
    exact ⟨by rw [D.plains, a.1, b.1]; rfl, by rw [okSs, a.2, b.2]; rfl⟩
end
theorem eqOk_of {k : Nat} {d : D} (h : rOk k d = true) (hd : d.depth ≤ 60) : eqOk d = true := by
  have := rOk_plain d h
  unfold eqOk
  rw [this.1, this.2, decide_eq_true hd]; rfl
mutual
theorem rOk_repr {k : Nat} (hk : k ≤ 500) : ∀ d : D, rOk k d = true → reprOk d = true ∧ d.py.leavesShort (k + 8) = true ∧ d.py.bulk = szD d
  | .non, _ => ⟨rfl, rfl, rfl⟩
  | .bl _, _ => ⟨rfl, rfl, rfl⟩
  | .int i, h => by
    rw [rOk, decide_eq_true_eq] at h
    refine ⟨?_, ?_, rfl⟩
    · rw [reprOk, decide_eq_true_eq]
      by_cases h0 : i.natAbs = 0
      · rw [h0]; decide
      · rw [Nat.log2_lt h0]
        have e1 : (10 : Nat) ^ k ≤ 10 ^ 500 := Nat.pow_le_pow_right (by decide) hk
        have e2 : (10 : Nat) ^ 500 < 2 ^ 1900 := by decide +kernel
        omega
    · simp only [D.py, PyData.leavesShort, decide_eq_true_eq]
      show (Str.ofString (toString i)).length ≤ k + 8
      rw [ofString_length]
      by_cases hk0 : 0 < k
      · have := int_text_length_le10 (k := k) hk0 h
        omega
      · have h2 : i.natAbs < 10 ^ 1 := by have : k = 0 := by omega
                                          subst this; simp at h; omega
        have := int_text_length_le10 (k := 1) (by decide) h2
        omega
  | .str s, h => by
    refine ⟨rfl, ?_, rfl⟩
    rw [rOk] at h
    simp only [D.py, PyData.leavesShort, List.all_eq_true, decide_eq_true_eq]
    intro c hc
    have := (Array.all_eq_true_iff_forall_mem.mp h) c (Array.mem_toList_iff.mp hc)
    have h2 : c < 0x110000 := by simpa using this
    have e : (16 : Nat) ^ 8 = 4294967296 := by decide
    omega
  | .tup xs, h => by
    have := rOks_repr hk xs (by simpa only [rOk] using h)
    simpa only [reprOk, D.py, PyData.leavesShort, PyData.bulk, szD] using this
  | .lst xs, h => by
    have := rOks_repr hk xs (by simpa only [rOk] using h)
    simpa only [reprOk, D.py, PyData.leavesShort, PyData.bulk, szD] using this
  | .dct _, h => by simp only [rOk] at h; exact nomatch h
  | .fn _, h => by simp only [rOk] at h; exact nomatch h
  | .scr _, h => by simp only [rOk] at h; exact nomatch h
theorem rOks_repr {k : Nat} (hk : k ≤ 500) : ∀ xs : List D, rOks k xs = true → reprOks xs = true ∧ PyData.leavesShortAll (k + 8) (D.pys xs) = true ∧ PyData.bulkAll (D.pys xs) = szDs xs
  | [], _ => ⟨rfl, rfl, rfl⟩
  | x :: r, h => by
    rw [rOks, Bool.and_eq_true] at h
    have a := rOk_repr hk x h.1
    have b := rOks_repr hk r h.2
    refine ⟨by rw [reprOks, a.1, b.1]; rfl, by rw [D.pys, PyData.leavesShortAll, a.2.1, b.2.1]; rfl, by rw [D.pys, PyData.bulkAll, a.2.2, b.2.2, szDs]⟩
end
theorem reprD_ok {d : D} (k : Nat) (h : rOk k d = true) (hd : d.depth ≤ 60) (hs : (k + 10) * szD d + (k + 8) ≤ 16000000) (hk : k ≤ 500) : reprD d = some (.str d.py.shown) := by
  have a := rOk_repr hk d h
  have b := PyData.shown_le_bulk (k + 8) (by omega) d.py a.2.1
  rw [a.2.2, show k + 8 + 2 = k + 10 from by omega] at b
  unfold reprD
  rw [if_pos]
  simp only [a.1, Bool.true_and, Bool.and_eq_true, decide_eq_true_eq]
  exact ⟨hd, by show _ ≤ 16000000; omega⟩
mutual
theorem eqv_refl : ∀ d : D, d.plain = true → D.eqv d d = true
  | .non, _ => rfl
  | .bl _, _ => by simp [D.eqv]
  | .int _, _ => by simp [D.eqv]
  | .str _, _ => by simp [D.eqv]
  | .tup xs, h => by rw [D.eqv]; exact eqvs_refl xs (by simpa only [D.plain] using h)
  | .lst xs, h => by rw [D.eqv]; exact eqvs_refl xs (by simpa only [D.plain] using h)
  | .dct _, h => by simp only [D.plain] at h; exact nomatch h
  | .fn _, h => by simp only [D.plain] at h; exact nomatch h
  | .scr _, h => by simp only [D.plain] at h; exact nomatch h
theorem eqvs_refl : ∀ xs : List D, D.plains xs = true → D.eqvs xs xs = true
  | [], _ => rfl
  | x :: r, h => by
    rw [D.plains, Bool.and_eq_true] at h
    rw [D.eqvs, eqv_refl x h.1, eqvs_refl r h.2]; rfl
end
theorem ne_self {d : D} (h : eqOk d = true) : cmpD .ne d d = some false := by
  rw [cmpD_ne h h, eqv_refl d (by unfold eqOk at h; simp only [Bool.and_eq_true] at h; exact h.1.1)]; rfl
theorem eq_self_ {d : D} (h : eqOk d = true) : cmpD .eq d d = some true := by
  rw [cmpD_eq h h, eqv_refl d (by unfold eqOk at h; simp only [Bool.and_eq_true] at h; exact h.1.1)]
end Z.Y
end

section
set_option Elab.async false
set_option linter.all false
set_option maxRecDepth 100000
set_option maxHeartbeats 1000000
/-! ZTx: texts: joined, split; slices. -/
namespace Z.Y
open PySem PySem.Builtin.Str
theorem foldl_cat : ∀ (ps : List Str) (acc : Array Nat), (ps.foldl (fun acc p => acc ++ (#[] : Array Nat) ++ p.cps) acc).toList = acc.toList ++ (ps.map (·.cps.toList)).flatten
  | [], acc => by simp
  | p :: ps, acc => by rw [List.foldl_cons, foldl_cat ps]; simp
theorem join0 (ys : List Str) : (Txt.join "" ys).cps.toList = (ys.map (·.cps.toList)).flatten := by
  have e0 : (("" : Str)).cps = #[] := by decide +kernel
  show ((ys.drop 1).foldl (fun acc p => acc ++ ("" : Str).cps ++ p.cps) (ys.headD Str.empty).cps).toList = _
  rw [e0]
  cases ys with
  | nil => rfl
  | cons y ys =>
    simp only [List.drop_one, List.tail_cons, List.headD_cons]
    rw [foldl_cat]; simp
theorem strSub_codes {x : Str} {i j c : Nat} (h : c ∈ (strSub x i j).cps.toList) : c ∈ x.cps.toList := by
  unfold strSub at h
  simp only [Array.toList_extract] at h
  exact List.mem_of_mem_drop (List.mem_of_mem_take h)
theorem split_codes {x y a : Str} (h : a ∈ Txt.split x y) {c : Nat} (hc : c ∈ a.cps.toList) : c ∈ x.cps.toList := by
  unfold Txt.split at h
  have hp : ∀ cuts w, a ∈ partsBetween x cuts w → c ∈ x.cps.toList := by
    intro cuts w h
    unfold partsBetween at h
    simp only [List.mem_map] at h
    obtain ⟨p, _, rfl⟩ := h
    exact strSub_codes hc
  split at h
  · rw [List.mem_singleton] at h; subst h; exact hc
  · split at h
    · rw [List.mem_singleton] at h; subst h; exact hc
    · exact hp _ _ h
theorem mem_cut {α : Type} {xs : List α} {lo hi : Option Int} {x : α} (h : x ∈ cutD xs lo hi) : x ∈ xs := by
  unfold cutD at h
  exact List.mem_of_mem_drop (List.mem_of_mem_take h)
theorem len_cut {α : Type} {xs : List α} {lo hi : Option Int} : (cutD xs lo hi).length ≤ xs.length := by
  unfold cutD
  rw [List.length_take, List.length_drop]
  omega
end Z.Y
end

section
set_option Elab.async false
set_option linter.all false
set_option maxRecDepth 100000
set_option maxHeartbeats 1000000
namespace Z.Y.N21
open PySem
open Z.Y0 (eV eA eT eI eW eD eG eAs eDs eSp eTs eAnd eOr eCs eArg eIfs xSs xS lcR forR eGs eVs eGo isMk isTs isV isStar negD zipD enuD rvsD)
abbrev P := K21.Pg
abbrev cx (n : Nat) : Cxt := P.cxt (P.call n)
theorem lk_is_integer : List.lookup ("is_integer" : Str) P.fns = some P_k21.f_is_integer := by kernel_rfl
theorem le_is_integer (n : Nat) : (cx n).lent "is_integer" = [false] := by kernel_rfl
theorem ar_is_integer (n : Nat) : (cx n).ar "is_integer" = some 1 := by kernel_rfl
theorem lk_is_row : List.lookup ("is_row" : Str) P.fns = some P_k21.f_is_row := by kernel_rfl
theorem le_is_row (n : Nat) : (cx n).lent "is_row" = [false] := by kernel_rfl
theorem ar_is_row (n : Nat) : (cx n).ar "is_row" = some 1 := by kernel_rfl
theorem lk_are_pairs : List.lookup ("are_pairs" : Str) P.fns = some P_k21.f_are_pairs := by kernel_rfl
theorem le_are_pairs (n : Nat) : (cx n).lent "are_pairs" = [false] := by kernel_rfl
theorem ar_are_pairs (n : Nat) : (cx n).ar "are_pairs" = some 1 := by kernel_rfl
theorem lk_is_told_table : List.lookup ("is_told_table" : Str) P.fns = some P_k21.f_is_told_table := by kernel_rfl
theorem le_is_told_table (n : Nat) : (cx n).lent "is_told_table" = [false] := by kernel_rfl
theorem ar_is_told_table (n : Nat) : (cx n).ar "is_told_table" = some 1 := by kernel_rfl
theorem lk_is_told_poly : List.lookup ("is_told_poly" : Str) P.fns = some P_k21.f_is_told_poly := by kernel_rfl
theorem le_is_told_poly (n : Nat) : (cx n).lent "is_told_poly" = [false] := by kernel_rfl
theorem ar_is_told_poly (n : Nat) : (cx n).ar "is_told_poly" = some 1 := by kernel_rfl
theorem lk_has_form : List.lookup ("has_form" : Str) P.fns = some P_k21.f_has_form := by kernel_rfl
theorem le_has_form (n : Nat) : (cx n).lent "has_form" = [false, false] := by kernel_rfl
theorem ar_has_form (n : Nat) : (cx n).ar "has_form" = some 2 := by kernel_rfl
theorem lk_words_of : List.lookup ("words_of" : Str) P.fns = some P_k21.f_words_of := by kernel_rfl
theorem le_words_of (n : Nat) : (cx n).lent "words_of" = [false] := by kernel_rfl
theorem ar_words_of (n : Nat) : (cx n).ar "words_of" = some 1 := by kernel_rfl
theorem lk_is_name : List.lookup ("is_name" : Str) P.fns = some P_k21.f_is_name := by kernel_rfl
theorem le_is_name (n : Nat) : (cx n).lent "is_name" = [false] := by kernel_rfl
theorem ar_is_name (n : Nat) : (cx n).ar "is_name" = some 1 := by kernel_rfl
theorem lk_number_in : List.lookup ("number_in" : Str) P.fns = some P_k21.f_number_in := by kernel_rfl
theorem le_number_in (n : Nat) : (cx n).lent "number_in" = [false] := by kernel_rfl
theorem ar_number_in (n : Nat) : (cx n).ar "number_in" = some 1 := by kernel_rfl
theorem lk__law_number : List.lookup ("_law_number" : Str) P.fns = some P_k21.f__law_number := by kernel_rfl
theorem le__law_number (n : Nat) : (cx n).lent "_law_number" = [false] := by kernel_rfl
theorem ar__law_number (n : Nat) : (cx n).ar "_law_number" = some 1 := by kernel_rfl
theorem lk__law_draws : List.lookup ("_law_draws" : Str) P.fns = some P_k21.f__law_draws := by kernel_rfl
theorem le__law_draws (n : Nat) : (cx n).lent "_law_draws" = [false] := by kernel_rfl
theorem ar__law_draws (n : Nat) : (cx n).ar "_law_draws" = some 1 := by kernel_rfl
theorem lk__law_next : List.lookup ("_law_next" : Str) P.fns = some P_k21.f__law_next := by kernel_rfl
theorem le__law_next (n : Nat) : (cx n).lent "_law_next" = [true] := by kernel_rfl
theorem ar__law_next (n : Nat) : (cx n).ar "_law_next" = some 1 := by kernel_rfl
theorem lk__law_more : List.lookup ("_law_more" : Str) P.fns = some P_k21.f__law_more := by kernel_rfl
theorem le__law_more (n : Nat) : (cx n).lent "_law_more" = [true, false] := by kernel_rfl
theorem ar__law_more (n : Nat) : (cx n).ar "_law_more" = some 2 := by kernel_rfl
theorem lk__law_pick : List.lookup ("_law_pick" : Str) P.fns = some P_k21.f__law_pick := by kernel_rfl
theorem le__law_pick (n : Nat) : (cx n).lent "_law_pick" = [true, false] := by kernel_rfl
theorem ar__law_pick (n : Nat) : (cx n).ar "_law_pick" = some 2 := by kernel_rfl
theorem lk__law_kind : List.lookup ("_law_kind" : Str) P.fns = some P_k21.f__law_kind := by kernel_rfl
theorem le__law_kind (n : Nat) : (cx n).lent "_law_kind" = [false] := by kernel_rfl
theorem ar__law_kind (n : Nat) : (cx n).ar "_law_kind" = some 1 := by kernel_rfl
theorem lk__law_line : List.lookup ("_law_line" : Str) P.fns = some P_k21.f__law_line := by kernel_rfl
theorem le__law_line (n : Nat) : (cx n).lent "_law_line" = [false] := by kernel_rfl
theorem ar__law_line (n : Nat) : (cx n).ar "_law_line" = some 1 := by kernel_rfl
theorem lk__law_number_of : List.lookup ("_law_number_of" : Str) P.fns = some P_k21.f__law_number_of := by kernel_rfl
theorem le__law_number_of (n : Nat) : (cx n).lent "_law_number_of" = [false] := by kernel_rfl
theorem ar__law_number_of (n : Nat) : (cx n).ar "_law_number_of" = some 1 := by kernel_rfl
theorem lk__law_is_row : List.lookup ("_law_is_row" : Str) P.fns = some P_k21.f__law_is_row := by kernel_rfl
theorem le__law_is_row (n : Nat) : (cx n).lent "_law_is_row" = [false] := by kernel_rfl
theorem ar__law_is_row (n : Nat) : (cx n).ar "_law_is_row" = some 1 := by kernel_rfl
theorem lk__law_are_pairs : List.lookup ("_law_are_pairs" : Str) P.fns = some P_k21.f__law_are_pairs := by kernel_rfl
theorem le__law_are_pairs (n : Nat) : (cx n).lent "_law_are_pairs" = [false] := by kernel_rfl
theorem ar__law_are_pairs (n : Nat) : (cx n).ar "_law_are_pairs" = some 1 := by kernel_rfl
theorem lk__law_due : List.lookup ("_law_due" : Str) P.fns = some P_k21.f__law_due := by kernel_rfl
theorem le__law_due (n : Nat) : (cx n).lent "_law_due" = [false, false] := by kernel_rfl
theorem ar__law_due (n : Nat) : (cx n).ar "_law_due" = some 2 := by kernel_rfl
theorem lk__law_spoilt : List.lookup ("_law_spoilt" : Str) P.fns = some P_k21.f__law_spoilt := by kernel_rfl
theorem le__law_spoilt (n : Nat) : (cx n).lent "_law_spoilt" = [true, false] := by kernel_rfl
theorem ar__law_spoilt (n : Nat) : (cx n).ar "_law_spoilt" = some 2 := by kernel_rfl
theorem lk_law : List.lookup ("law" : Str) P.fns = some P_k21.f_law := by kernel_rfl
theorem le_law (n : Nat) : (cx n).lent "law" = [false] := by kernel_rfl
theorem ar_law (n : Nat) : (cx n).ar "law" = some 1 := by kernel_rfl
theorem cls_int (n : Nat) : (cx n).cls "int" = false := by kernel_rfl
theorem cls_bool (n : Nat) : (cx n).cls "bool" = false := by kernel_rfl
theorem cls_str (n : Nat) : (cx n).cls "str" = false := by kernel_rfl
theorem cls_tuple (n : Nat) : (cx n).cls "tuple" = false := by kernel_rfl
theorem cls_list (n : Nat) : (cx n).cls "list" = false := by kernel_rfl
theorem cls_dict (n : Nat) : (cx n).cls "dict" = false := by kernel_rfl
theorem cls_BelowError (n : Nat) : (cx n).cls "BelowError" = true := by kernel_rfl
theorem fld_BelowError (n : Nat) : (cx n).fld "BelowError" = P.fld.lookup ("BelowError" : Str) := rfl
theorem cls_NotPoly (n : Nat) : (cx n).cls "NotPoly" = true := by kernel_rfl
theorem fld_NotPoly (n : Nat) : (cx n).fld "NotPoly" = P.fld.lookup ("NotPoly" : Str) := rfl
theorem cls_NotTable (n : Nat) : (cx n).cls "NotTable" = true := by kernel_rfl
theorem fld_NotTable (n : Nat) : (cx n).fld "NotTable" = P.fld.lookup ("NotTable" : Str) := rfl
theorem cls_NotPlace (n : Nat) : (cx n).cls "NotPlace" = true := by kernel_rfl
theorem fld_NotPlace (n : Nat) : (cx n).fld "NotPlace" = P.fld.lookup ("NotPlace" : Str) := rfl
theorem cls_NotPaper (n : Nat) : (cx n).cls "NotPaper" = true := by kernel_rfl
theorem fld_NotPaper (n : Nat) : (cx n).fld "NotPaper" = P.fld.lookup ("NotPaper" : Str) := rfl
theorem cls_BadNumber (n : Nat) : (cx n).cls "BadNumber" = true := by kernel_rfl
theorem fld_BadNumber (n : Nat) : (cx n).fld "BadNumber" = P.fld.lookup ("BadNumber" : Str) := rfl
theorem cls_NoAnswer (n : Nat) : (cx n).cls "NoAnswer" = true := by kernel_rfl
theorem fld_NoAnswer (n : Nat) : (cx n).fld "NoAnswer" = P.fld.lookup ("NoAnswer" : Str) := rfl
theorem cls_TooLarge (n : Nat) : (cx n).cls "TooLarge" = true := by kernel_rfl
theorem fld_TooLarge (n : Nat) : (cx n).fld "TooLarge" = P.fld.lookup ("TooLarge" : Str) := rfl
theorem sub_BelowError_BelowError (n : Nat) : (cx n).sub "BelowError" "BelowError" = true := by kernel_rfl
theorem sub_BelowError_NotPoly (n : Nat) : (cx n).sub "BelowError" "NotPoly" = false := by kernel_rfl
theorem sub_BelowError_NotTable (n : Nat) : (cx n).sub "BelowError" "NotTable" = false := by kernel_rfl
theorem sub_BelowError_NotPlace (n : Nat) : (cx n).sub "BelowError" "NotPlace" = false := by kernel_rfl
theorem sub_BelowError_NotPaper (n : Nat) : (cx n).sub "BelowError" "NotPaper" = false := by kernel_rfl
theorem sub_BelowError_BadNumber (n : Nat) : (cx n).sub "BelowError" "BadNumber" = false := by kernel_rfl
theorem sub_BelowError_NoAnswer (n : Nat) : (cx n).sub "BelowError" "NoAnswer" = false := by kernel_rfl
theorem sub_BelowError_TooLarge (n : Nat) : (cx n).sub "BelowError" "TooLarge" = false := by kernel_rfl
theorem sub_BelowError_ValueError (n : Nat) : (cx n).sub "BelowError" "ValueError" = true := by kernel_rfl
theorem sub_NotPoly_BelowError (n : Nat) : (cx n).sub "NotPoly" "BelowError" = true := by kernel_rfl
theorem sub_NotPoly_NotPoly (n : Nat) : (cx n).sub "NotPoly" "NotPoly" = true := by kernel_rfl
theorem sub_NotPoly_NotTable (n : Nat) : (cx n).sub "NotPoly" "NotTable" = false := by kernel_rfl
theorem sub_NotPoly_NotPlace (n : Nat) : (cx n).sub "NotPoly" "NotPlace" = false := by kernel_rfl
theorem sub_NotPoly_NotPaper (n : Nat) : (cx n).sub "NotPoly" "NotPaper" = false := by kernel_rfl
theorem sub_NotPoly_BadNumber (n : Nat) : (cx n).sub "NotPoly" "BadNumber" = false := by kernel_rfl
theorem sub_NotPoly_NoAnswer (n : Nat) : (cx n).sub "NotPoly" "NoAnswer" = false := by kernel_rfl
theorem sub_NotPoly_TooLarge (n : Nat) : (cx n).sub "NotPoly" "TooLarge" = false := by kernel_rfl
theorem sub_NotPoly_ValueError (n : Nat) : (cx n).sub "NotPoly" "ValueError" = true := by kernel_rfl
theorem sub_NotTable_BelowError (n : Nat) : (cx n).sub "NotTable" "BelowError" = true := by kernel_rfl
theorem sub_NotTable_NotPoly (n : Nat) : (cx n).sub "NotTable" "NotPoly" = false := by kernel_rfl
theorem sub_NotTable_NotTable (n : Nat) : (cx n).sub "NotTable" "NotTable" = true := by kernel_rfl
theorem sub_NotTable_NotPlace (n : Nat) : (cx n).sub "NotTable" "NotPlace" = false := by kernel_rfl
theorem sub_NotTable_NotPaper (n : Nat) : (cx n).sub "NotTable" "NotPaper" = false := by kernel_rfl
theorem sub_NotTable_BadNumber (n : Nat) : (cx n).sub "NotTable" "BadNumber" = false := by kernel_rfl
theorem sub_NotTable_NoAnswer (n : Nat) : (cx n).sub "NotTable" "NoAnswer" = false := by kernel_rfl
theorem sub_NotTable_TooLarge (n : Nat) : (cx n).sub "NotTable" "TooLarge" = false := by kernel_rfl
theorem sub_NotTable_ValueError (n : Nat) : (cx n).sub "NotTable" "ValueError" = true := by kernel_rfl
theorem sub_NotPlace_BelowError (n : Nat) : (cx n).sub "NotPlace" "BelowError" = true := by kernel_rfl
theorem sub_NotPlace_NotPoly (n : Nat) : (cx n).sub "NotPlace" "NotPoly" = false := by kernel_rfl
theorem sub_NotPlace_NotTable (n : Nat) : (cx n).sub "NotPlace" "NotTable" = false := by kernel_rfl
theorem sub_NotPlace_NotPlace (n : Nat) : (cx n).sub "NotPlace" "NotPlace" = true := by kernel_rfl
theorem sub_NotPlace_NotPaper (n : Nat) : (cx n).sub "NotPlace" "NotPaper" = false := by kernel_rfl
theorem sub_NotPlace_BadNumber (n : Nat) : (cx n).sub "NotPlace" "BadNumber" = false := by kernel_rfl
theorem sub_NotPlace_NoAnswer (n : Nat) : (cx n).sub "NotPlace" "NoAnswer" = false := by kernel_rfl
theorem sub_NotPlace_TooLarge (n : Nat) : (cx n).sub "NotPlace" "TooLarge" = false := by kernel_rfl
theorem sub_NotPlace_ValueError (n : Nat) : (cx n).sub "NotPlace" "ValueError" = true := by kernel_rfl
theorem sub_NotPaper_BelowError (n : Nat) : (cx n).sub "NotPaper" "BelowError" = true := by kernel_rfl
theorem sub_NotPaper_NotPoly (n : Nat) : (cx n).sub "NotPaper" "NotPoly" = false := by kernel_rfl
theorem sub_NotPaper_NotTable (n : Nat) : (cx n).sub "NotPaper" "NotTable" = false := by kernel_rfl
theorem sub_NotPaper_NotPlace (n : Nat) : (cx n).sub "NotPaper" "NotPlace" = false := by kernel_rfl
theorem sub_NotPaper_NotPaper (n : Nat) : (cx n).sub "NotPaper" "NotPaper" = true := by kernel_rfl
theorem sub_NotPaper_BadNumber (n : Nat) : (cx n).sub "NotPaper" "BadNumber" = false := by kernel_rfl
theorem sub_NotPaper_NoAnswer (n : Nat) : (cx n).sub "NotPaper" "NoAnswer" = false := by kernel_rfl
theorem sub_NotPaper_TooLarge (n : Nat) : (cx n).sub "NotPaper" "TooLarge" = false := by kernel_rfl
theorem sub_NotPaper_ValueError (n : Nat) : (cx n).sub "NotPaper" "ValueError" = true := by kernel_rfl
theorem sub_BadNumber_BelowError (n : Nat) : (cx n).sub "BadNumber" "BelowError" = true := by kernel_rfl
theorem sub_BadNumber_NotPoly (n : Nat) : (cx n).sub "BadNumber" "NotPoly" = false := by kernel_rfl
theorem sub_BadNumber_NotTable (n : Nat) : (cx n).sub "BadNumber" "NotTable" = false := by kernel_rfl
theorem sub_BadNumber_NotPlace (n : Nat) : (cx n).sub "BadNumber" "NotPlace" = false := by kernel_rfl
theorem sub_BadNumber_NotPaper (n : Nat) : (cx n).sub "BadNumber" "NotPaper" = false := by kernel_rfl
theorem sub_BadNumber_BadNumber (n : Nat) : (cx n).sub "BadNumber" "BadNumber" = true := by kernel_rfl
theorem sub_BadNumber_NoAnswer (n : Nat) : (cx n).sub "BadNumber" "NoAnswer" = false := by kernel_rfl
theorem sub_BadNumber_TooLarge (n : Nat) : (cx n).sub "BadNumber" "TooLarge" = false := by kernel_rfl
theorem sub_BadNumber_ValueError (n : Nat) : (cx n).sub "BadNumber" "ValueError" = true := by kernel_rfl
theorem sub_NoAnswer_BelowError (n : Nat) : (cx n).sub "NoAnswer" "BelowError" = true := by kernel_rfl
theorem sub_NoAnswer_NotPoly (n : Nat) : (cx n).sub "NoAnswer" "NotPoly" = false := by kernel_rfl
theorem sub_NoAnswer_NotTable (n : Nat) : (cx n).sub "NoAnswer" "NotTable" = false := by kernel_rfl
theorem sub_NoAnswer_NotPlace (n : Nat) : (cx n).sub "NoAnswer" "NotPlace" = false := by kernel_rfl
theorem sub_NoAnswer_NotPaper (n : Nat) : (cx n).sub "NoAnswer" "NotPaper" = false := by kernel_rfl
theorem sub_NoAnswer_BadNumber (n : Nat) : (cx n).sub "NoAnswer" "BadNumber" = false := by kernel_rfl
theorem sub_NoAnswer_NoAnswer (n : Nat) : (cx n).sub "NoAnswer" "NoAnswer" = true := by kernel_rfl
theorem sub_NoAnswer_TooLarge (n : Nat) : (cx n).sub "NoAnswer" "TooLarge" = false := by kernel_rfl
theorem sub_NoAnswer_ValueError (n : Nat) : (cx n).sub "NoAnswer" "ValueError" = true := by kernel_rfl
theorem sub_TooLarge_BelowError (n : Nat) : (cx n).sub "TooLarge" "BelowError" = true := by kernel_rfl
theorem sub_TooLarge_NotPoly (n : Nat) : (cx n).sub "TooLarge" "NotPoly" = false := by kernel_rfl
theorem sub_TooLarge_NotTable (n : Nat) : (cx n).sub "TooLarge" "NotTable" = false := by kernel_rfl
theorem sub_TooLarge_NotPlace (n : Nat) : (cx n).sub "TooLarge" "NotPlace" = false := by kernel_rfl
theorem sub_TooLarge_NotPaper (n : Nat) : (cx n).sub "TooLarge" "NotPaper" = false := by kernel_rfl
theorem sub_TooLarge_BadNumber (n : Nat) : (cx n).sub "TooLarge" "BadNumber" = false := by kernel_rfl
theorem sub_TooLarge_NoAnswer (n : Nat) : (cx n).sub "TooLarge" "NoAnswer" = false := by kernel_rfl
theorem sub_TooLarge_TooLarge (n : Nat) : (cx n).sub "TooLarge" "TooLarge" = true := by kernel_rfl
theorem sub_TooLarge_ValueError (n : Nat) : (cx n).sub "TooLarge" "ValueError" = true := by kernel_rfl
theorem con_int (n : Nat) : (cx n).con "int" = some (.fn "int") := by kernel_rfl
theorem con_str (n : Nat) : (cx n).con "str" = some (.fn "str") := by kernel_rfl
theorem con_bool (n : Nat) : (cx n).con "bool" = some (.fn "bool") := by kernel_rfl
theorem con_tuple (n : Nat) : (cx n).con "tuple" = some (.fn "tuple") := by kernel_rfl
theorem con_list (n : Nat) : (cx n).con "list" = some (.fn "list") := by kernel_rfl
theorem con_dict (n : Nat) : (cx n).con "dict" = some (.fn "dict") := by kernel_rfl
theorem con_BelowError (n : Nat) : (cx n).con "BelowError" = some (.fn "BelowError") := by kernel_rfl
theorem con_NotPoly (n : Nat) : (cx n).con "NotPoly" = some (.fn "NotPoly") := by kernel_rfl
theorem con_NotTable (n : Nat) : (cx n).con "NotTable" = some (.fn "NotTable") := by kernel_rfl
theorem con_NotPlace (n : Nat) : (cx n).con "NotPlace" = some (.fn "NotPlace") := by kernel_rfl
theorem con_NotPaper (n : Nat) : (cx n).con "NotPaper" = some (.fn "NotPaper") := by kernel_rfl
theorem con_BadNumber (n : Nat) : (cx n).con "BadNumber" = some (.fn "BadNumber") := by kernel_rfl
theorem con_NoAnswer (n : Nat) : (cx n).con "NoAnswer" = some (.fn "NoAnswer") := by kernel_rfl
theorem con_TooLarge (n : Nat) : (cx n).con "TooLarge" = some (.fn "TooLarge") := by kernel_rfl
theorem con_is_integer (n : Nat) : (cx n).con "is_integer" = some (.fn "is_integer") := by kernel_rfl
theorem con_is_row (n : Nat) : (cx n).con "is_row" = some (.fn "is_row") := by kernel_rfl
theorem con_are_pairs (n : Nat) : (cx n).con "are_pairs" = some (.fn "are_pairs") := by kernel_rfl
theorem con_is_told_table (n : Nat) : (cx n).con "is_told_table" = some (.fn "is_told_table") := by kernel_rfl
theorem con_is_told_poly (n : Nat) : (cx n).con "is_told_poly" = some (.fn "is_told_poly") := by kernel_rfl
theorem con_FORMS (n : Nat) : (cx n).con "FORMS" = some (.dct [(.str "poly", .fn "is_told_poly"), (.str "fractions", .fn "are_pairs"), (.str "table", .fn "is_told_table"), (.str "row", .fn "is_row")]) := by kernel_rfl
theorem con_has_form (n : Nat) : (cx n).con "has_form" = some (.fn "has_form") := by kernel_rfl
theorem con_SMALL (n : Nat) : (cx n).con "SMALL" = some (.str "abcdefghijklmnopqrstuvwxyz") := by kernel_rfl
theorem con_FIGURES (n : Nat) : (cx n).con "FIGURES" = some (.str "0123456789") := by kernel_rfl
theorem con_words_of (n : Nat) : (cx n).con "words_of" = some (.fn "words_of") := by kernel_rfl
theorem con_is_name (n : Nat) : (cx n).con "is_name" = some (.fn "is_name") := by kernel_rfl
theorem con_number_in (n : Nat) : (cx n).con "number_in" = some (.fn "number_in") := by kernel_rfl
theorem con__law_number (n : Nat) : (cx n).con "_law_number" = some (.fn "_law_number") := by kernel_rfl
theorem con__law_draws (n : Nat) : (cx n).con "_law_draws" = some (.fn "_law_draws") := by kernel_rfl
theorem con__law_next (n : Nat) : (cx n).con "_law_next" = some (.fn "_law_next") := by kernel_rfl
theorem con__law_more (n : Nat) : (cx n).con "_law_more" = some (.fn "_law_more") := by kernel_rfl
theorem con__law_pick (n : Nat) : (cx n).con "_law_pick" = some (.fn "_law_pick") := by kernel_rfl
theorem con__law_kind (n : Nat) : (cx n).con "_law_kind" = some (.fn "_law_kind") := by kernel_rfl
theorem con__law_line (n : Nat) : (cx n).con "_law_line" = some (.fn "_law_line") := by kernel_rfl
theorem con__law_number_of (n : Nat) : (cx n).con "_law_number_of" = some (.fn "_law_number_of") := by kernel_rfl
theorem con__law_is_row (n : Nat) : (cx n).con "_law_is_row" = some (.fn "_law_is_row") := by kernel_rfl
theorem con__law_are_pairs (n : Nat) : (cx n).con "_law_are_pairs" = some (.fn "_law_are_pairs") := by kernel_rfl
theorem con__law_due (n : Nat) : (cx n).con "_law_due" = some (.fn "_law_due") := by kernel_rfl
theorem con__law_spoilt (n : Nat) : (cx n).con "_law_spoilt" = some (.fn "_law_spoilt") := by kernel_rfl
theorem con_law (n : Nat) : (cx n).con "law" = some (.fn "law") := by kernel_rfl
theorem call_c (n : Nat) (x : Str) (os : List O) : (cx n).call x os = P.call n x os := rfl
theorem L_law_number : Lk P "_law_number" c_law_number := by kernel_rfl
theorem L_law_draws : Lk P "_law_draws" c_law_draws := by kernel_rfl
theorem L_law_next : Lk P "_law_next" c_law_next := by kernel_rfl
theorem L_law_more : Lk P "_law_more" c_law_more := by kernel_rfl
theorem L_law_pick : Lk P "_law_pick" c_law_pick := by kernel_rfl
end Z.Y.N21
end

section
set_option Elab.async false
set_option linter.all false
set_option maxRecDepth 100000
set_option maxHeartbeats 1000000
namespace Z.Y.N21
open PySem
open Z.Y0 (eV eA eT eI eW eD eG eAs eDs eSp eTs eAnd eOr eCs eArg eIfs xSs xS lcR forR eGs eVs eGo isMk isTs isV isStar negD zipD enuD rvsD)
local macro_rules | `(tactic| simp_arith) => `(tactic| simp -dsimp only [Nat.reduceAdd, Nat.reduceSub, Nat.reduceLT, Nat.reduceLeDiff, Nat.reduceEqDiff, Nat.reduceBEq, Int.reduceEq, Int.reduceLT, Int.reduceLE, Int.reduceAdd, Int.reduceSub, Int.reduceMul, Int.reduceNeg, String.reduceEq, String.reduceBEq, ↓reduceIte, ↓W_ok, ↓W_ex, ↓W_st, W_ite, ↓FW_ok, ↓FW_ex, ↓FW_st, FW_ite, OK_some, OK_none, OK_itn, OK_map, OK_bind, BK_t, BK_f, BK_dec, BK_not, gK_frz, gK_lst, gK_dct, aK_val, aK_plc, vK_frz, vK_lst, vK_dct, pK_frz, pK_lst, pK_dct, pK_ins, pK_exc, KS_nx, KS_rt, KS_bk, KS_ct, KL_nx, KL_ct, KL_bk, KL_rt, ↓W_bind, ↓W_pure, ↓W_stuck, ↓W_opt, ↓W_iteM, ↓W_const, ↓dOf_W, ↓aOf_W, ↓tOf_W, ↓itOf_W, ↓one_W, ↓two_W, ↓many_W, ↓blM_W, ↓eA_mk, ↓eT_mk, ↓eW_mk, ↓eI_mk, ↓eA_ts, ↓eW_ts, ↓eD_W, frzO_frz, frzO_lst, frzO_dct, frzO_ins, frzO_exc, ↓eV_var, ↓eA_var, ↓eW_var, ↓eT_var, ↓eI_var, ↓eV_non, ↓eV_bl, ↓eV_int, ↓eV_str, ↓eV_glb, ↓eV_bin, ↓eV_neg, ↓eT_nt, ↓eV_nt, ↓eV_band, ↓eV_bor, ↓eT_band, ↓eT_bor, ↓eAnd_one, ↓eAnd_cons, ↓eOr_one, ↓eOr_cons, ↓eTs_nil, ↓eTs_and, ↓eTs_or, ↓eT_cmp, ↓eV_cmp, ↓eT_chn, ↓eV_chn, ↓eV_ife, ↓eAs_nil, ↓eAs_cons, ↓eDs_nil, ↓eDs_cons, ↓eSp_nil, ↓eSp_cons, ↓eSp_star, ↓eCs_nil, ↓eCs_cons, ↓eCs_nof, ↓eArg_lent, qK_frz, qK_lst, qK_dct, qK_exc, ↓eArg_var, ↓eArg_oth, gets_nil, gets_cons, ↓doCall_W, ↓eV_call, ↓eV_calle, getOs_nil, getOs_cons, getO_val, getO_plc, ↓eV_bi1, ↓eV_bi2, ↓eV_bi0, ↓eV_isi, ↓eI_range, ↓eI_zip, ↓eI_enum, ↓eI_rev, ↓eV_plain, mK_lst, ↓eV_mut, ↓eV_sub, oK_none, intK_int, oK_some, ↓eV_slc, ↓eV_rev, ↓eV_lst, ↓eV_tup, ↓eG_var, ↓eGs_nil, ↓eGs_cons, tK_tup, ↓eG_tup, ↓eG_sub, ↓xSs_nil, ↓xSs_cons, ↓xS_asg, ↓eVs_nil, ↓eVs_cons, ↓eGo_nil, ↓eGo_cons, ↓xS_asg2, ↓xS_retv, ↓xS_ret, ↓xS_retn, ↓xS_ifs, ↓xS_for, ↓forR_nil, ↓xS_brk, ↓xS_cnt, ↓xS_pas, ↓xS_expr, ↓xS_rais, ↓xS_try, ↓eIfs_nil, ↓eIfs_cons, ↓eV_lc, ↓lcR_nil, ofString_eq, ofString_beq, ↓isWalk_len, ↓isIsi_len, ↓isWalk_int, ↓isIsi_int, ↓isWalk_abs, ↓isIsi_abs, ↓isWalk_all, ↓isIsi_all, ↓isWalk_any, ↓isIsi_any, ↓isWalk_sum, ↓isIsi_sum, ↓isWalk_tuple, ↓isIsi_tuple, ↓isWalk_list, ↓isIsi_list, ↓isWalk_sorted, ↓isIsi_sorted, ↓isWalk_min, ↓isIsi_min, ↓isWalk_max, ↓isIsi_max, ↓isWalk_repr, ↓isIsi_repr, ↓isWalk_str, ↓isIsi_str, ↓isWalk_dict, ↓isIsi_dict, ↓isWalk_isinstance, ↓isIsi_isinstance, ↓biD_len, ↓biD_int, ↓biD_abs, ↓biD_all, ↓biD_any, ↓biD_sum, ↓biD_tuple, ↓biD_list, ↓biD_sorted, ↓biD_min, ↓biD_max, ↓biD_repr, ↓biD_str, ↓biD_dict, ↓isIv_index, ↓isMut_index, ↓isIv_count, ↓isMut_count, ↓isIv_get, ↓isMut_get, ↓isIv_join, ↓isMut_join, ↓isIv_split, ↓isMut_split, ↓isIv_startswith, ↓isMut_startswith, ↓isIv_endswith, ↓isMut_endswith, ↓isIv_append, ↓isMut_append, ↓isIv_extend, ↓isMut_extend, ↓isIv_reverse, ↓isMut_reverse, ↓isIv_pop, ↓isMut_pop, ↓isIv_insert, ↓isMut_insert, ↓isPl_index, ↓methD_index, ↓kindM_index_lst, ↓kindM_index_str, ↓isPl_count, ↓methD_count, ↓kindM_count_lst, ↓kindM_count_str, ↓isPl_get, ↓methD_get, ↓kindM_get_lst, ↓kindM_get_str, ↓isPl_join, ↓methD_join, ↓kindM_join_lst, ↓kindM_join_str, ↓isPl_split, ↓methD_split, ↓kindM_split_lst, ↓kindM_split_str, ↓isPl_startswith, ↓methD_startswith, ↓kindM_startswith_lst, ↓kindM_startswith_str, ↓isPl_endswith, ↓methD_endswith, ↓kindM_endswith_lst, ↓kindM_endswith_str, ↓mutD_append, ↓mutD_extend, ↓mutD_reverse, ↓mutD_pop, ↓mutD_insert, ↓bi_len_tup, ↓bi_len_lst, ↓bi_len_str, ↓bi_int_int, ↓bi_int_bl, ↓bi_int_str, ↓bi_abs_int, ↓bi_all_lst, ↓bi_any_lst, ↓bi_sum_lst, ↓bi_sum_tup, ↓bi_tuple_lst, ↓bi_tuple_tup, ↓bi_list_lst, ↓bi_list_tup, ↓bi_sorted_lst, ↓bi_sorted_tup, ↓bi_min_two, ↓bi_max_two, ↓bi_min_lst, ↓bi_max_lst, ↓bi_repr_one, ↓bi_str_int, ↓bi_str_str, ↓mt_index_lst, ↓mt_count_lst, ↓mt_join_lst, ↓mt_split_str, ↓mt_startswith_str, ↓mt_endswith_str, ↓mu_append_lst, ↓mu_extend_lst, ↓mu_reverse_lst, ↓mu_pop_lst, ↓mu_insert_lst, ↓binD_add, ↓binD_addb, ↓binD_adds, ↓binD_addt, ↓binD_addl, ↓binD_sub, ↓binD_mul, ↓binD_mull, ↓binD_fdv, ↓binD_mod, ↓binD_pow, ↓cmpD_eqs, ↓cmpD_nes, ↓cmpD_lt, ↓cmpD_lts, ↓cmpD_le, ↓cmpD_les, ↓cmpD_gt, ↓cmpD_ge, ↓cmpD_is, ↓cmpD_isn, ↓cmpD_isb, ↓cmpD_isnb, ↓cmpD_eqi, ↓cmpD_nei, ↓cmpD_in, ↓cmpD_nin, ↓subD_tup, ↓subD_lst, ↓subD_str, ↓slcD_tup, ↓slcD_lst, ↓slcD_str, ↓itemsD_tup, ↓itemsD_lst, ↓itemsD_str, ↓itemsD_scr, ↓revD_tup, ↓revD_lst, ↓negD_int, ↓tru_non, ↓tru_bl, ↓tru_int, ↓tru_str, ↓tru_tup, ↓tru_lst, ↓isNon_non, ↓isNon_bl, ↓isNon_int, ↓isNon_str, ↓isNon_tup, ↓isNon_lst, ↓isiD_non, ↓isiD_bl_int, ↓isiD_bl_bool, ↓isiD_bl_str, ↓isiD_bl_tuple, ↓isiD_bl_list, ↓isiD_bl_dict, ↓isiD_int_int, ↓isiD_int_bool, ↓isiD_int_str, ↓isiD_int_tuple, ↓isiD_int_list, ↓isiD_int_dict, ↓isiD_str_int, ↓isiD_str_bool, ↓isiD_str_str, ↓isiD_str_tuple, ↓isiD_str_list, ↓isiD_str_dict, ↓isiD_tup_int, ↓isiD_tup_bool, ↓isiD_tup_str, ↓isiD_tup_tuple, ↓isiD_tup_list, ↓isiD_tup_dict, ↓isiD_lst_int, ↓isiD_lst_bool, ↓isiD_lst_str, ↓isiD_lst_tuple, ↓isiD_lst_list, ↓isiD_lst_dict, ↓getO_zero, ↓getO_succ, ↓set_zero, ↓set_succ, ↓wipe_nil, ↓wipe_cons, ↓back_nil, ↓back_cons, ↓lb_lent, ↓lb_keep, ↓lb_val, ↓lb_nil, ↓lb_nof, ↓ol_nil, ↓ol_val, ↓ol_lent, ↓ol_exc, ↓tail_c, ↓tail_n, ↓plcs_nil, ↓plcs_val, ↓plcs_plc, ↓nodup_nil, ↓nodup_one, ↓outs_nil, ↓outs_frz, ↓outs_exc, ↓ownO_lst, ↓ownO_dct, ↓ownO_ins, ↓outs_lst, ↓outs_dct, ↓outs_ins, all_id, any_id, blsD_map, intsD_map, strsD_map, strsD_str, ↓isV_non, ↓isStar_non, ↓isMk_non, ↓isTs_non, ↓isTup2l_non, ↓isTup2r_non, ↓isV_bl, ↓isStar_bl, ↓isMk_bl, ↓isTs_bl, ↓isTup2l_bl, ↓isTup2r_bl, ↓isV_int, ↓isStar_int, ↓isMk_int, ↓isTs_int, ↓isTup2l_int, ↓isTup2r_int, ↓isV_str, ↓isStar_str, ↓isMk_str, ↓isTs_str, ↓isTup2l_str, ↓isTup2r_str, ↓isV_var, ↓isStar_var, ↓isMk_var, ↓isTs_var, ↓isTup2l_var, ↓isTup2r_var, ↓isV_glb, ↓isStar_glb, ↓isMk_glb, ↓isTs_glb, ↓isTup2l_glb, ↓isTup2r_glb, ↓isV_bin, ↓isStar_bin, ↓isMk_bin, ↓isTs_bin, ↓isTup2l_bin, ↓isTup2r_bin, ↓isV_neg, ↓isStar_neg, ↓isMk_neg, ↓isTs_neg, ↓isTup2l_neg, ↓isTup2r_neg, ↓isV_nt, ↓isStar_nt, ↓isMk_nt, ↓isTs_nt, ↓isTup2l_nt, ↓isTup2r_nt, ↓isV_band, ↓isStar_band, ↓isMk_band, ↓isTs_band, ↓isTup2l_band, ↓isTup2r_band, ↓isV_bor, ↓isStar_bor, ↓isMk_bor, ↓isTs_bor, ↓isTup2l_bor, ↓isTup2r_bor, ↓isV_cmp, ↓isStar_cmp, ↓isMk_cmp, ↓isTs_cmp, ↓isTup2l_cmp, ↓isTup2r_cmp, ↓isV_chn, ↓isStar_chn, ↓isMk_chn, ↓isTs_chn, ↓isTup2l_chn, ↓isTup2r_chn, ↓isV_chn3, ↓isStar_chn3, ↓isMk_chn3, ↓isTs_chn3, ↓isTup2l_chn3, ↓isTup2r_chn3, ↓isV_ife, ↓isStar_ife, ↓isMk_ife, ↓isTs_ife, ↓isTup2l_ife, ↓isTup2r_ife, ↓isV_call, ↓isStar_call, ↓isMk_call, ↓isTs_call, ↓isTup2l_call, ↓isTup2r_call, ↓isV_bi, ↓isStar_bi, ↓isMk_bi, ↓isTs_bi, ↓isTup2l_bi, ↓isTup2r_bi, ↓isV_calle, ↓isStar_calle, ↓isMk_calle, ↓isTs_calle, ↓isTup2l_calle, ↓isTup2r_calle, ↓isV_meth, ↓isStar_meth, ↓isMk_meth, ↓isTs_meth, ↓isTup2l_meth, ↓isTup2r_meth, ↓isV_attr, ↓isStar_attr, ↓isMk_attr, ↓isTs_attr, ↓isTup2l_attr, ↓isTup2r_attr, ↓isV_sub, ↓isStar_sub, ↓isMk_sub, ↓isTs_sub, ↓isTup2l_sub, ↓isTup2r_sub, ↓isV_slc, ↓isStar_slc, ↓isMk_slc, ↓isTs_slc, ↓isTup2l_slc, ↓isTup2r_slc, ↓isV_lst, ↓isStar_lst, ↓isMk_lst, ↓isTs_lst, ↓isTup2l_lst, ↓isTup2r_lst, ↓isV_tup, ↓isStar_tup, ↓isMk_tup, ↓isTs_tup, ↓isV_star, ↓isStar_star, ↓isMk_star, ↓isTs_star, ↓isTup2l_star, ↓isTup2r_star, ↓isV_dic, ↓isStar_dic, ↓isMk_dic, ↓isTs_dic, ↓isTup2l_dic, ↓isTup2r_dic, ↓isV_lc, ↓isStar_lc, ↓isMk_lc, ↓isTs_lc, ↓isTup2l_lc, ↓isTup2r_lc, ↓isV_lc2, ↓isStar_lc2, ↓isMk_lc2, ↓isTs_lc2, ↓isTup2l_lc2, ↓isTup2r_lc2, ↓isV_dc, ↓isStar_dc, ↓isMk_dc, ↓isTs_dc, ↓isTup2l_dc, ↓isTup2r_dc, ↓isWalk_range, ↓isWalk_zip, ↓isWalk_enumerate, ↓isWalk_reversed, ↓nd0, ↓nd1, ↓nd2, ↓nd3, ↓true_eq, ↓false_eq, ↓tf_eq, ↓ft_eq, ↓rep_zero, ↓rep_succ, not_t, not_f, band_t, band_f, and_tt, and_tr, and_fl, and_fr, imp_t, imp_f, imp_tt, n_t, n_f, dec_eq, dec_ne, bnot_eq, bnot_ne, band_eq, eq_self', mapc, mapn, appc, appn, lenc, lmap, lapp, lrange, cps_len, lenn, noExc_cons, noExc_nil, nx1_frz, nx1_lst, nx1_dct, nx1_ins, nx1_none, noExcR_nx, noExcR_frz, noExcR_lst, noExcR_dct, drs_len, drs_app, drs_snoc, drs_three, drs_rev, drs_empty, lim_eq, ↓le_is_integer, ↓ar_is_integer, ↓le_is_row, ↓ar_is_row, ↓le_are_pairs, ↓ar_are_pairs, ↓le_is_told_table, ↓ar_is_told_table, ↓le_is_told_poly, ↓ar_is_told_poly, ↓le_has_form, ↓ar_has_form, ↓le_words_of, ↓ar_words_of, ↓le_is_name, ↓ar_is_name, ↓le_number_in, ↓ar_number_in, ↓le__law_number, ↓ar__law_number, ↓le__law_draws, ↓ar__law_draws, ↓le__law_next, ↓ar__law_next, ↓le__law_more, ↓ar__law_more, ↓le__law_pick, ↓ar__law_pick, ↓le__law_kind, ↓ar__law_kind, ↓le__law_line, ↓ar__law_line, ↓le__law_number_of, ↓ar__law_number_of, ↓le__law_is_row, ↓ar__law_is_row, ↓le__law_are_pairs, ↓ar__law_are_pairs, ↓le__law_due, ↓ar__law_due, ↓le__law_spoilt, ↓ar__law_spoilt, ↓le_law, ↓ar_law, ↓cls_int, ↓cls_bool, ↓cls_str, ↓cls_tuple, ↓cls_list, ↓cls_dict, ↓cls_BelowError, ↓fld_BelowError, ↓cls_NotPoly, ↓fld_NotPoly, ↓cls_NotTable, ↓fld_NotTable, ↓cls_NotPlace, ↓fld_NotPlace, ↓cls_NotPaper, ↓fld_NotPaper, ↓cls_BadNumber, ↓fld_BadNumber, ↓cls_NoAnswer, ↓fld_NoAnswer, ↓cls_TooLarge, ↓fld_TooLarge, ↓sub_BelowError_BelowError, ↓sub_BelowError_NotPoly, ↓sub_BelowError_NotTable, ↓sub_BelowError_NotPlace, ↓sub_BelowError_NotPaper, ↓sub_BelowError_BadNumber, ↓sub_BelowError_NoAnswer, ↓sub_BelowError_TooLarge, ↓sub_BelowError_ValueError, ↓sub_NotPoly_BelowError, ↓sub_NotPoly_NotPoly, ↓sub_NotPoly_NotTable, ↓sub_NotPoly_NotPlace, ↓sub_NotPoly_NotPaper, ↓sub_NotPoly_BadNumber, ↓sub_NotPoly_NoAnswer, ↓sub_NotPoly_TooLarge, ↓sub_NotPoly_ValueError, ↓sub_NotTable_BelowError, ↓sub_NotTable_NotPoly, ↓sub_NotTable_NotTable, ↓sub_NotTable_NotPlace, ↓sub_NotTable_NotPaper, ↓sub_NotTable_BadNumber, ↓sub_NotTable_NoAnswer, ↓sub_NotTable_TooLarge, ↓sub_NotTable_ValueError, ↓sub_NotPlace_BelowError, ↓sub_NotPlace_NotPoly, ↓sub_NotPlace_NotTable, ↓sub_NotPlace_NotPlace, ↓sub_NotPlace_NotPaper, ↓sub_NotPlace_BadNumber, ↓sub_NotPlace_NoAnswer, ↓sub_NotPlace_TooLarge, ↓sub_NotPlace_ValueError, ↓sub_NotPaper_BelowError, ↓sub_NotPaper_NotPoly, ↓sub_NotPaper_NotTable, ↓sub_NotPaper_NotPlace, ↓sub_NotPaper_NotPaper, ↓sub_NotPaper_BadNumber, ↓sub_NotPaper_NoAnswer, ↓sub_NotPaper_TooLarge, ↓sub_NotPaper_ValueError, ↓sub_BadNumber_BelowError, ↓sub_BadNumber_NotPoly, ↓sub_BadNumber_NotTable, ↓sub_BadNumber_NotPlace, ↓sub_BadNumber_NotPaper, ↓sub_BadNumber_BadNumber, ↓sub_BadNumber_NoAnswer, ↓sub_BadNumber_TooLarge, ↓sub_BadNumber_ValueError, ↓sub_NoAnswer_BelowError, ↓sub_NoAnswer_NotPoly, ↓sub_NoAnswer_NotTable, ↓sub_NoAnswer_NotPlace, ↓sub_NoAnswer_NotPaper, ↓sub_NoAnswer_BadNumber, ↓sub_NoAnswer_NoAnswer, ↓sub_NoAnswer_TooLarge, ↓sub_NoAnswer_ValueError, ↓sub_TooLarge_BelowError, ↓sub_TooLarge_NotPoly, ↓sub_TooLarge_NotTable, ↓sub_TooLarge_NotPlace, ↓sub_TooLarge_NotPaper, ↓sub_TooLarge_BadNumber, ↓sub_TooLarge_NoAnswer, ↓sub_TooLarge_TooLarge, ↓sub_TooLarge_ValueError, ↓con_int, ↓con_str, ↓con_bool, ↓con_tuple, ↓con_list, ↓con_dict, ↓con_BelowError, ↓con_NotPoly, ↓con_NotTable, ↓con_NotPlace, ↓con_NotPaper, ↓con_BadNumber, ↓con_NoAnswer, ↓con_TooLarge, ↓con_is_integer, ↓con_is_row, ↓con_are_pairs, ↓con_is_told_table, ↓con_is_told_poly, ↓con_FORMS, ↓con_has_form, ↓con_SMALL, ↓con_FIGURES, ↓con_words_of, ↓con_is_name, ↓con_number_in, ↓con__law_number, ↓con__law_draws, ↓con__law_next, ↓con__law_more, ↓con__law_pick, ↓con__law_kind, ↓con__law_line, ↓con__law_number_of, ↓con__law_is_row, ↓con__law_are_pairs, ↓con__law_due, ↓con__law_spoilt, ↓con_law, ↓call_c])
local macro_rules | `(tactic| simp_arith [$ls:simpLemma,*]) => `(tactic| simp -dsimp only [Nat.reduceAdd, Nat.reduceSub, Nat.reduceLT, Nat.reduceLeDiff, Nat.reduceEqDiff, Nat.reduceBEq, Int.reduceEq, Int.reduceLT, Int.reduceLE, Int.reduceAdd, Int.reduceSub, Int.reduceMul, Int.reduceNeg, String.reduceEq, String.reduceBEq, ↓reduceIte, ↓W_ok, ↓W_ex, ↓W_st, W_ite, ↓FW_ok, ↓FW_ex, ↓FW_st, FW_ite, OK_some, OK_none, OK_itn, OK_map, OK_bind, BK_t, BK_f, BK_dec, BK_not, gK_frz, gK_lst, gK_dct, aK_val, aK_plc, vK_frz, vK_lst, vK_dct, pK_frz, pK_lst, pK_dct, pK_ins, pK_exc, KS_nx, KS_rt, KS_bk, KS_ct, KL_nx, KL_ct, KL_bk, KL_rt, ↓W_bind, ↓W_pure, ↓W_stuck, ↓W_opt, ↓W_iteM, ↓W_const, ↓dOf_W, ↓aOf_W, ↓tOf_W, ↓itOf_W, ↓one_W, ↓two_W, ↓many_W, ↓blM_W, ↓eA_mk, ↓eT_mk, ↓eW_mk, ↓eI_mk, ↓eA_ts, ↓eW_ts, ↓eD_W, frzO_frz, frzO_lst, frzO_dct, frzO_ins, frzO_exc, ↓eV_var, ↓eA_var, ↓eW_var, ↓eT_var, ↓eI_var, ↓eV_non, ↓eV_bl, ↓eV_int, ↓eV_str, ↓eV_glb, ↓eV_bin, ↓eV_neg, ↓eT_nt, ↓eV_nt, ↓eV_band, ↓eV_bor, ↓eT_band, ↓eT_bor, ↓eAnd_one, ↓eAnd_cons, ↓eOr_one, ↓eOr_cons, ↓eTs_nil, ↓eTs_and, ↓eTs_or, ↓eT_cmp, ↓eV_cmp, ↓eT_chn, ↓eV_chn, ↓eV_ife, ↓eAs_nil, ↓eAs_cons, ↓eDs_nil, ↓eDs_cons, ↓eSp_nil, ↓eSp_cons, ↓eSp_star, ↓eCs_nil, ↓eCs_cons, ↓eCs_nof, ↓eArg_lent, qK_frz, qK_lst, qK_dct, qK_exc, ↓eArg_var, ↓eArg_oth, gets_nil, gets_cons, ↓doCall_W, ↓eV_call, ↓eV_calle, getOs_nil, getOs_cons, getO_val, getO_plc, ↓eV_bi1, ↓eV_bi2, ↓eV_bi0, ↓eV_isi, ↓eI_range, ↓eI_zip, ↓eI_enum, ↓eI_rev, ↓eV_plain, mK_lst, ↓eV_mut, ↓eV_sub, oK_none, intK_int, oK_some, ↓eV_slc, ↓eV_rev, ↓eV_lst, ↓eV_tup, ↓eG_var, ↓eGs_nil, ↓eGs_cons, tK_tup, ↓eG_tup, ↓eG_sub, ↓xSs_nil, ↓xSs_cons, ↓xS_asg, ↓eVs_nil, ↓eVs_cons, ↓eGo_nil, ↓eGo_cons, ↓xS_asg2, ↓xS_retv, ↓xS_ret, ↓xS_retn, ↓xS_ifs, ↓xS_for, ↓forR_nil, ↓xS_brk, ↓xS_cnt, ↓xS_pas, ↓xS_expr, ↓xS_rais, ↓xS_try, ↓eIfs_nil, ↓eIfs_cons, ↓eV_lc, ↓lcR_nil, ofString_eq, ofString_beq, ↓isWalk_len, ↓isIsi_len, ↓isWalk_int, ↓isIsi_int, ↓isWalk_abs, ↓isIsi_abs, ↓isWalk_all, ↓isIsi_all, ↓isWalk_any, ↓isIsi_any, ↓isWalk_sum, ↓isIsi_sum, ↓isWalk_tuple, ↓isIsi_tuple, ↓isWalk_list, ↓isIsi_list, ↓isWalk_sorted, ↓isIsi_sorted, ↓isWalk_min, ↓isIsi_min, ↓isWalk_max, ↓isIsi_max, ↓isWalk_repr, ↓isIsi_repr, ↓isWalk_str, ↓isIsi_str, ↓isWalk_dict, ↓isIsi_dict, ↓isWalk_isinstance, ↓isIsi_isinstance, ↓biD_len, ↓biD_int, ↓biD_abs, ↓biD_all, ↓biD_any, ↓biD_sum, ↓biD_tuple, ↓biD_list, ↓biD_sorted, ↓biD_min, ↓biD_max, ↓biD_repr, ↓biD_str, ↓biD_dict, ↓isIv_index, ↓isMut_index, ↓isIv_count, ↓isMut_count, ↓isIv_get, ↓isMut_get, ↓isIv_join, ↓isMut_join, ↓isIv_split, ↓isMut_split, ↓isIv_startswith, ↓isMut_startswith, ↓isIv_endswith, ↓isMut_endswith, ↓isIv_append, ↓isMut_append, ↓isIv_extend, ↓isMut_extend, ↓isIv_reverse, ↓isMut_reverse, ↓isIv_pop, ↓isMut_pop, ↓isIv_insert, ↓isMut_insert, ↓isPl_index, ↓methD_index, ↓kindM_index_lst, ↓kindM_index_str, ↓isPl_count, ↓methD_count, ↓kindM_count_lst, ↓kindM_count_str, ↓isPl_get, ↓methD_get, ↓kindM_get_lst, ↓kindM_get_str, ↓isPl_join, ↓methD_join, ↓kindM_join_lst, ↓kindM_join_str, ↓isPl_split, ↓methD_split, ↓kindM_split_lst, ↓kindM_split_str, ↓isPl_startswith, ↓methD_startswith, ↓kindM_startswith_lst, ↓kindM_startswith_str, ↓isPl_endswith, ↓methD_endswith, ↓kindM_endswith_lst, ↓kindM_endswith_str, ↓mutD_append, ↓mutD_extend, ↓mutD_reverse, ↓mutD_pop, ↓mutD_insert, ↓bi_len_tup, ↓bi_len_lst, ↓bi_len_str, ↓bi_int_int, ↓bi_int_bl, ↓bi_int_str, ↓bi_abs_int, ↓bi_all_lst, ↓bi_any_lst, ↓bi_sum_lst, ↓bi_sum_tup, ↓bi_tuple_lst, ↓bi_tuple_tup, ↓bi_list_lst, ↓bi_list_tup, ↓bi_sorted_lst, ↓bi_sorted_tup, ↓bi_min_two, ↓bi_max_two, ↓bi_min_lst, ↓bi_max_lst, ↓bi_repr_one, ↓bi_str_int, ↓bi_str_str, ↓mt_index_lst, ↓mt_count_lst, ↓mt_join_lst, ↓mt_split_str, ↓mt_startswith_str, ↓mt_endswith_str, ↓mu_append_lst, ↓mu_extend_lst, ↓mu_reverse_lst, ↓mu_pop_lst, ↓mu_insert_lst, ↓binD_add, ↓binD_addb, ↓binD_adds, ↓binD_addt, ↓binD_addl, ↓binD_sub, ↓binD_mul, ↓binD_mull, ↓binD_fdv, ↓binD_mod, ↓binD_pow, ↓cmpD_eqs, ↓cmpD_nes, ↓cmpD_lt, ↓cmpD_lts, ↓cmpD_le, ↓cmpD_les, ↓cmpD_gt, ↓cmpD_ge, ↓cmpD_is, ↓cmpD_isn, ↓cmpD_isb, ↓cmpD_isnb, ↓cmpD_eqi, ↓cmpD_nei, ↓cmpD_in, ↓cmpD_nin, ↓subD_tup, ↓subD_lst, ↓subD_str, ↓slcD_tup, ↓slcD_lst, ↓slcD_str, ↓itemsD_tup, ↓itemsD_lst, ↓itemsD_str, ↓itemsD_scr, ↓revD_tup, ↓revD_lst, ↓negD_int, ↓tru_non, ↓tru_bl, ↓tru_int, ↓tru_str, ↓tru_tup, ↓tru_lst, ↓isNon_non, ↓isNon_bl, ↓isNon_int, ↓isNon_str, ↓isNon_tup, ↓isNon_lst, ↓isiD_non, ↓isiD_bl_int, ↓isiD_bl_bool, ↓isiD_bl_str, ↓isiD_bl_tuple, ↓isiD_bl_list, ↓isiD_bl_dict, ↓isiD_int_int, ↓isiD_int_bool, ↓isiD_int_str, ↓isiD_int_tuple, ↓isiD_int_list, ↓isiD_int_dict, ↓isiD_str_int, ↓isiD_str_bool, ↓isiD_str_str, ↓isiD_str_tuple, ↓isiD_str_list, ↓isiD_str_dict, ↓isiD_tup_int, ↓isiD_tup_bool, ↓isiD_tup_str, ↓isiD_tup_tuple, ↓isiD_tup_list, ↓isiD_tup_dict, ↓isiD_lst_int, ↓isiD_lst_bool, ↓isiD_lst_str, ↓isiD_lst_tuple, ↓isiD_lst_list, ↓isiD_lst_dict, ↓getO_zero, ↓getO_succ, ↓set_zero, ↓set_succ, ↓wipe_nil, ↓wipe_cons, ↓back_nil, ↓back_cons, ↓lb_lent, ↓lb_keep, ↓lb_val, ↓lb_nil, ↓lb_nof, ↓ol_nil, ↓ol_val, ↓ol_lent, ↓ol_exc, ↓tail_c, ↓tail_n, ↓plcs_nil, ↓plcs_val, ↓plcs_plc, ↓nodup_nil, ↓nodup_one, ↓outs_nil, ↓outs_frz, ↓outs_exc, ↓ownO_lst, ↓ownO_dct, ↓ownO_ins, ↓outs_lst, ↓outs_dct, ↓outs_ins, all_id, any_id, blsD_map, intsD_map, strsD_map, strsD_str, ↓isV_non, ↓isStar_non, ↓isMk_non, ↓isTs_non, ↓isTup2l_non, ↓isTup2r_non, ↓isV_bl, ↓isStar_bl, ↓isMk_bl, ↓isTs_bl, ↓isTup2l_bl, ↓isTup2r_bl, ↓isV_int, ↓isStar_int, ↓isMk_int, ↓isTs_int, ↓isTup2l_int, ↓isTup2r_int, ↓isV_str, ↓isStar_str, ↓isMk_str, ↓isTs_str, ↓isTup2l_str, ↓isTup2r_str, ↓isV_var, ↓isStar_var, ↓isMk_var, ↓isTs_var, ↓isTup2l_var, ↓isTup2r_var, ↓isV_glb, ↓isStar_glb, ↓isMk_glb, ↓isTs_glb, ↓isTup2l_glb, ↓isTup2r_glb, ↓isV_bin, ↓isStar_bin, ↓isMk_bin, ↓isTs_bin, ↓isTup2l_bin, ↓isTup2r_bin, ↓isV_neg, ↓isStar_neg, ↓isMk_neg, ↓isTs_neg, ↓isTup2l_neg, ↓isTup2r_neg, ↓isV_nt, ↓isStar_nt, ↓isMk_nt, ↓isTs_nt, ↓isTup2l_nt, ↓isTup2r_nt, ↓isV_band, ↓isStar_band, ↓isMk_band, ↓isTs_band, ↓isTup2l_band, ↓isTup2r_band, ↓isV_bor, ↓isStar_bor, ↓isMk_bor, ↓isTs_bor, ↓isTup2l_bor, ↓isTup2r_bor, ↓isV_cmp, ↓isStar_cmp, ↓isMk_cmp, ↓isTs_cmp, ↓isTup2l_cmp, ↓isTup2r_cmp, ↓isV_chn, ↓isStar_chn, ↓isMk_chn, ↓isTs_chn, ↓isTup2l_chn, ↓isTup2r_chn, ↓isV_chn3, ↓isStar_chn3, ↓isMk_chn3, ↓isTs_chn3, ↓isTup2l_chn3, ↓isTup2r_chn3, ↓isV_ife, ↓isStar_ife, ↓isMk_ife, ↓isTs_ife, ↓isTup2l_ife, ↓isTup2r_ife, ↓isV_call, ↓isStar_call, ↓isMk_call, ↓isTs_call, ↓isTup2l_call, ↓isTup2r_call, ↓isV_bi, ↓isStar_bi, ↓isMk_bi, ↓isTs_bi, ↓isTup2l_bi, ↓isTup2r_bi, ↓isV_calle, ↓isStar_calle, ↓isMk_calle, ↓isTs_calle, ↓isTup2l_calle, ↓isTup2r_calle, ↓isV_meth, ↓isStar_meth, ↓isMk_meth, ↓isTs_meth, ↓isTup2l_meth, ↓isTup2r_meth, ↓isV_attr, ↓isStar_attr, ↓isMk_attr, ↓isTs_attr, ↓isTup2l_attr, ↓isTup2r_attr, ↓isV_sub, ↓isStar_sub, ↓isMk_sub, ↓isTs_sub, ↓isTup2l_sub, ↓isTup2r_sub, ↓isV_slc, ↓isStar_slc, ↓isMk_slc, ↓isTs_slc, ↓isTup2l_slc, ↓isTup2r_slc, ↓isV_lst, ↓isStar_lst, ↓isMk_lst, ↓isTs_lst, ↓isTup2l_lst, ↓isTup2r_lst, ↓isV_tup, ↓isStar_tup, ↓isMk_tup, ↓isTs_tup, ↓isV_star, ↓isStar_star, ↓isMk_star, ↓isTs_star, ↓isTup2l_star, ↓isTup2r_star, ↓isV_dic, ↓isStar_dic, ↓isMk_dic, ↓isTs_dic, ↓isTup2l_dic, ↓isTup2r_dic, ↓isV_lc, ↓isStar_lc, ↓isMk_lc, ↓isTs_lc, ↓isTup2l_lc, ↓isTup2r_lc, ↓isV_lc2, ↓isStar_lc2, ↓isMk_lc2, ↓isTs_lc2, ↓isTup2l_lc2, ↓isTup2r_lc2, ↓isV_dc, ↓isStar_dc, ↓isMk_dc, ↓isTs_dc, ↓isTup2l_dc, ↓isTup2r_dc, ↓isWalk_range, ↓isWalk_zip, ↓isWalk_enumerate, ↓isWalk_reversed, ↓nd0, ↓nd1, ↓nd2, ↓nd3, ↓true_eq, ↓false_eq, ↓tf_eq, ↓ft_eq, ↓rep_zero, ↓rep_succ, not_t, not_f, band_t, band_f, and_tt, and_tr, and_fl, and_fr, imp_t, imp_f, imp_tt, n_t, n_f, dec_eq, dec_ne, bnot_eq, bnot_ne, band_eq, eq_self', mapc, mapn, appc, appn, lenc, lmap, lapp, lrange, cps_len, lenn, noExc_cons, noExc_nil, nx1_frz, nx1_lst, nx1_dct, nx1_ins, nx1_none, noExcR_nx, noExcR_frz, noExcR_lst, noExcR_dct, drs_len, drs_app, drs_snoc, drs_three, drs_rev, drs_empty, lim_eq, ↓le_is_integer, ↓ar_is_integer, ↓le_is_row, ↓ar_is_row, ↓le_are_pairs, ↓ar_are_pairs, ↓le_is_told_table, ↓ar_is_told_table, ↓le_is_told_poly, ↓ar_is_told_poly, ↓le_has_form, ↓ar_has_form, ↓le_words_of, ↓ar_words_of, ↓le_is_name, ↓ar_is_name, ↓le_number_in, ↓ar_number_in, ↓le__law_number, ↓ar__law_number, ↓le__law_draws, ↓ar__law_draws, ↓le__law_next, ↓ar__law_next, ↓le__law_more, ↓ar__law_more, ↓le__law_pick, ↓ar__law_pick, ↓le__law_kind, ↓ar__law_kind, ↓le__law_line, ↓ar__law_line, ↓le__law_number_of, ↓ar__law_number_of, ↓le__law_is_row, ↓ar__law_is_row, ↓le__law_are_pairs, ↓ar__law_are_pairs, ↓le__law_due, ↓ar__law_due, ↓le__law_spoilt, ↓ar__law_spoilt, ↓le_law, ↓ar_law, ↓cls_int, ↓cls_bool, ↓cls_str, ↓cls_tuple, ↓cls_list, ↓cls_dict, ↓cls_BelowError, ↓fld_BelowError, ↓cls_NotPoly, ↓fld_NotPoly, ↓cls_NotTable, ↓fld_NotTable, ↓cls_NotPlace, ↓fld_NotPlace, ↓cls_NotPaper, ↓fld_NotPaper, ↓cls_BadNumber, ↓fld_BadNumber, ↓cls_NoAnswer, ↓fld_NoAnswer, ↓cls_TooLarge, ↓fld_TooLarge, ↓sub_BelowError_BelowError, ↓sub_BelowError_NotPoly, ↓sub_BelowError_NotTable, ↓sub_BelowError_NotPlace, ↓sub_BelowError_NotPaper, ↓sub_BelowError_BadNumber, ↓sub_BelowError_NoAnswer, ↓sub_BelowError_TooLarge, ↓sub_BelowError_ValueError, ↓sub_NotPoly_BelowError, ↓sub_NotPoly_NotPoly, ↓sub_NotPoly_NotTable, ↓sub_NotPoly_NotPlace, ↓sub_NotPoly_NotPaper, ↓sub_NotPoly_BadNumber, ↓sub_NotPoly_NoAnswer, ↓sub_NotPoly_TooLarge, ↓sub_NotPoly_ValueError, ↓sub_NotTable_BelowError, ↓sub_NotTable_NotPoly, ↓sub_NotTable_NotTable, ↓sub_NotTable_NotPlace, ↓sub_NotTable_NotPaper, ↓sub_NotTable_BadNumber, ↓sub_NotTable_NoAnswer, ↓sub_NotTable_TooLarge, ↓sub_NotTable_ValueError, ↓sub_NotPlace_BelowError, ↓sub_NotPlace_NotPoly, ↓sub_NotPlace_NotTable, ↓sub_NotPlace_NotPlace, ↓sub_NotPlace_NotPaper, ↓sub_NotPlace_BadNumber, ↓sub_NotPlace_NoAnswer, ↓sub_NotPlace_TooLarge, ↓sub_NotPlace_ValueError, ↓sub_NotPaper_BelowError, ↓sub_NotPaper_NotPoly, ↓sub_NotPaper_NotTable, ↓sub_NotPaper_NotPlace, ↓sub_NotPaper_NotPaper, ↓sub_NotPaper_BadNumber, ↓sub_NotPaper_NoAnswer, ↓sub_NotPaper_TooLarge, ↓sub_NotPaper_ValueError, ↓sub_BadNumber_BelowError, ↓sub_BadNumber_NotPoly, ↓sub_BadNumber_NotTable, ↓sub_BadNumber_NotPlace, ↓sub_BadNumber_NotPaper, ↓sub_BadNumber_BadNumber, ↓sub_BadNumber_NoAnswer, ↓sub_BadNumber_TooLarge, ↓sub_BadNumber_ValueError, ↓sub_NoAnswer_BelowError, ↓sub_NoAnswer_NotPoly, ↓sub_NoAnswer_NotTable, ↓sub_NoAnswer_NotPlace, ↓sub_NoAnswer_NotPaper, ↓sub_NoAnswer_BadNumber, ↓sub_NoAnswer_NoAnswer, ↓sub_NoAnswer_TooLarge, ↓sub_NoAnswer_ValueError, ↓sub_TooLarge_BelowError, ↓sub_TooLarge_NotPoly, ↓sub_TooLarge_NotTable, ↓sub_TooLarge_NotPlace, ↓sub_TooLarge_NotPaper, ↓sub_TooLarge_BadNumber, ↓sub_TooLarge_NoAnswer, ↓sub_TooLarge_TooLarge, ↓sub_TooLarge_ValueError, ↓con_int, ↓con_str, ↓con_bool, ↓con_tuple, ↓con_list, ↓con_dict, ↓con_BelowError, ↓con_NotPoly, ↓con_NotTable, ↓con_NotPlace, ↓con_NotPaper, ↓con_BadNumber, ↓con_NoAnswer, ↓con_TooLarge, ↓con_is_integer, ↓con_is_row, ↓con_are_pairs, ↓con_is_told_table, ↓con_is_told_poly, ↓con_FORMS, ↓con_has_form, ↓con_SMALL, ↓con_FIGURES, ↓con_words_of, ↓con_is_name, ↓con_number_in, ↓con__law_number, ↓con__law_draws, ↓con__law_next, ↓con__law_more, ↓con__law_pick, ↓con__law_kind, ↓con__law_line, ↓con__law_number_of, ↓con__law_is_row, ↓con__law_are_pairs, ↓con__law_due, ↓con__law_spoilt, ↓con_law, ↓call_c, $ls,*])
mutual
def okT : D → Bool
  | .non => true
  | .bl _ => true
  | .int _ => true
  | .str _ => true
  | .tup xs => decide (xs.length ≤ 100) && okTs xs
  | _ => false
def okTs : List D → Bool
  | [] => true
  | x :: xs => okT x && okTs xs
end
theorem okTs_mem {xs : List D} (h : okTs xs = true) {x : D} (m : x ∈ xs) : okT x = true := by
  induction xs with
  | nil => cases m
  | cons y ys ih =>
    rw [okTs, Bool.and_eq_true] at h
    cases m with
    | head => exact h.1
    | tail _ m => exact ih h.2 m
theorem okT_tup {xs : List D} (h : okT (.tup xs) = true) : xs.length ≤ 100 ∧ okTs xs = true := by
  rw [okT, Bool.and_eq_true, decide_eq_true_eq] at h
  exact h
def isI : D → Bool
  | .int _ => true
  | .bl _ => true
  | _ => false
def isRow : D → Bool
  | .tup xs => xs.all isI
  | _ => false
def arePairs : D → Bool
  | .tup xs => xs.all isRow
  | _ => false
def isTable : D → Bool
  | .tup xs => xs.all arePairs
  | _ => false
def two : D → Bool
  | .tup xs => decide ((xs.length : Int) = 2)
  | _ => false
def rows2 : D → Bool
  | .tup [a, b] => isRow a && isRow b
  | _ => false
def isPoly : D → Bool
  | .tup xs => xs.all two && xs.all rows2
  | _ => false
theorem is_integer (n : Nat) (hn : 0 < n) (d : D) (h : okT d = true) : P.call n "is_integer" [.frz d] = .ok (.frz (.bl (isI d))) [.frz d] := by
  refine FW_eq (call_W hn lk_is_integer rfl fun m _ => ?_)
  simp only [P_k21.f_is_integer]
  cases d <;> first | (cases h; done) | (simp_arith [isI])
theorem is_row (n : Nat) (hn : 1 < n) (d : D) (h : okT d = true) : P.call n "is_row" [.frz d] = .ok (.frz (.bl (isRow d))) [.frz d] := by
  refine FW_eq (call_W (by omega) lk_is_row rfl fun m _ => ?_)
  simp only [P_k21.f_is_row]
  cases d <;> first | (cases h; done) | (simp_arith [isRow]; done) | skip
  rename_i xs
  replace h := okT_tup h
  simp_arith [isRow]
  refine ⟨by omega, lcMD (fun d => .bl (isI d)) (fun x hx => ?_) ?_⟩
  · simp_arith [is_integer m (by omega) x (okTs_mem h.2 hx)]
  · simp_arith [isRow]
theorem law_is_row (n : Nat) (hn : 1 < n) (d : D) (h : okT d = true) : P.call n "_law_is_row" [.frz d] = .ok (.frz (.bl (isRow d))) [.frz d] := by
  refine FW_eq (call_W (by omega) lk__law_is_row rfl fun m _ => ?_)
  simp only [P_k21.f__law_is_row]
  cases d <;> first | (cases h; done) | (simp_arith [isRow]; done) | skip
  rename_i xs
  replace h := okT_tup h
  simp_arith [isRow]
  refine ⟨by omega, lcMD (fun d => .bl (isI d)) (fun x hx => ?_) ?_⟩
  · have hx := okTs_mem h.2 hx
    cases x <;> first | (cases hx; done) | (simp_arith [isI]; done)
  · simp_arith [isRow]
theorem are_pairs (n : Nat) (hn : 2 < n) (d : D) (h : okT d = true) : P.call n "are_pairs" [.frz d] = .ok (.frz (.bl (arePairs d))) [.frz d] := by
  refine FW_eq (call_W (by omega) lk_are_pairs rfl fun m _ => ?_)
  simp only [P_k21.f_are_pairs]
  cases d <;> first | (cases h; done) | (simp_arith [arePairs]; done) | skip
  rename_i xs
  replace h := okT_tup h
  simp_arith [arePairs]
  refine ⟨by omega, lcMD (fun d => .bl (isRow d)) (fun x hx => ?_) ?_⟩
  · simp_arith [is_row m (by omega) x (okTs_mem h.2 hx)]
  · simp_arith [arePairs]
theorem law_are_pairs (n : Nat) (hn : 2 < n) (d : D) (h : okT d = true) : P.call n "_law_are_pairs" [.frz d] = .ok (.frz (.bl (arePairs d))) [.frz d] := by
  refine FW_eq (call_W (by omega) lk__law_are_pairs rfl fun m _ => ?_)
  simp only [P_k21.f__law_are_pairs]
  cases d <;> first | (cases h; done) | (simp_arith [arePairs]; done) | skip
  rename_i xs
  replace h := okT_tup h
  simp_arith [arePairs]
  refine ⟨by omega, lcMD (fun d => .bl (isRow d)) (fun x hx => ?_) ?_⟩
  · simp_arith [law_is_row m (by omega) x (okTs_mem h.2 hx)]
  · simp_arith [arePairs]
theorem is_told_table (n : Nat) (hn : 3 < n) (d : D) (h : okT d = true) : P.call n "is_told_table" [.frz d] = .ok (.frz (.bl (isTable d))) [.frz d] := by
  refine FW_eq (call_W (by omega) lk_is_told_table rfl fun m _ => ?_)
  simp only [P_k21.f_is_told_table]
  cases d <;> first | (cases h; done) | (simp_arith [isTable]; done) | skip
  rename_i xs
  replace h := okT_tup h
  simp_arith [isTable]
  refine ⟨by omega, lcMD (fun d => .bl (arePairs d)) (fun x hx => ?_) ?_⟩
  · simp_arith [are_pairs m (by omega) x (okTs_mem h.2 hx)]
  · simp_arith [isTable]
theorem two_eq {d : D} (h : two d = true) : ∃ a b, d = .tup [a, b] := by
  cases d <;> first | (cases h; done) | skip
  rename_i xs
  rw [two, decide_eq_true_eq] at h
  match xs, h with
  | [a, b], _ => exact ⟨a, b, rfl⟩
  | [], h => simp at h
  | [_], h => simp at h
  | _ :: _ :: _ :: _, h => simp at h; omega
theorem is_told_poly (n : Nat) (hn : 3 < n) (d : D) (h : okT d = true) : P.call n "is_told_poly" [.frz d] = .ok (.frz (.bl (isPoly d))) [.frz d] := by
  refine FW_eq (call_W (by omega) lk_is_told_poly rfl fun m _ => ?_)
  simp only [P_k21.f_is_told_poly]
  cases d <;> first | (cases h; done) | (simp_arith [isPoly]; done) | skip
  rename_i xs
  replace h := okT_tup h
  simp_arith [isPoly]
  refine ⟨by omega, lcMD (fun d => .bl (two d)) (fun x hx => ?_) ?_⟩
  · have hx := okTs_mem h.2 hx
    cases x <;> first | (cases hx; done) | (simp_arith [two]; done) | skip
  · (simp_arith; simp -dsimp only [BK_any]; simp_arith)
    refine ⟨fun h2 => ⟨by omega, lcMD (fun d => .bl (rows2 d)) (fun x hx => ?_) ?_⟩, fun h2 => ?_⟩
    · have hx1 := okTs_mem h.2 hx
      have hx2 := List.all_eq_true.mp h2 x hx
      obtain ⟨a, b, rfl⟩ := two_eq hx2
      have hh := (okT_tup hx1).2
      rw [okTs, okTs, okTs, Bool.and_eq_true, Bool.and_true] at hh
      simp_arith [is_row m (by omega) a hh.1]
      cases ha : isRow a <;> simp_arith [is_row m (by omega) b hh.2, rows2, ha]
    · simp_arith [h2, isPoly, Bool.true_and, Bool.false_and]
    · simp_arith [h2, isPoly, Bool.true_and, Bool.false_and]
theorem law_due (n : Nat) (hn : 3 < n) (d : D) (h : okT d = true) :
    P.call n "_law_due" [.frz (.str "row"), .frz d] = .ok (.frz (.bl (isRow d))) [.frz (.str "row"), .frz d] ∧
    P.call n "_law_due" [.frz (.str "fractions"), .frz d] = .ok (.frz (.bl (arePairs d))) [.frz (.str "fractions"), .frz d] ∧
    P.call n "_law_due" [.frz (.str "table"), .frz d] = .ok (.frz (.bl (isTable d))) [.frz (.str "table"), .frz d] ∧
    P.call n "_law_due" [.frz (.str "poly"), .frz d] = .ok (.frz (.bl (isPoly d))) [.frz (.str "poly"), .frz d] := by
  refine ⟨?_, ?_, ?_, ?_⟩
  · refine FW_eq (call_W (by omega) lk__law_due rfl fun m _ => ?_)
    simp only [P_k21.f__law_due]
    simp_arith [law_is_row m (by omega) d h]
  · refine FW_eq (call_W (by omega) lk__law_due rfl fun m _ => ?_)
    simp only [P_k21.f__law_due]
    simp_arith [law_are_pairs m (by omega) d h]
  · refine FW_eq (call_W (by omega) lk__law_due rfl fun m _ => ?_)
    simp only [P_k21.f__law_due]
    cases d <;> first | (cases h; done) | (simp_arith [isTable]; done) | skip
    rename_i xs
    replace h := okT_tup h
    simp_arith [isTable]
    refine ⟨by omega, lcMD (fun d => .bl (arePairs d)) (fun x hx => ?_) ?_⟩
    · simp_arith [law_are_pairs m (by omega) x (okTs_mem h.2 hx)]
    · simp_arith [isTable]
  · refine FW_eq (call_W (by omega) lk__law_due rfl fun m _ => ?_)
    simp only [P_k21.f__law_due]
    cases d <;> first | (cases h; done) | (simp_arith [isPoly]; done) | skip
    rename_i xs
    replace h := okT_tup h
    simp_arith [isPoly]
    refine ⟨by omega, lcMD (fun d => .bl (two d)) (fun x hx => ?_) ?_⟩
    · have hx := okTs_mem h.2 hx
      cases x <;> first | (cases hx; done) | (simp_arith [two]; done) | skip
    · (simp_arith; simp -dsimp only [BK_any]; simp_arith)
      refine ⟨fun h2 => ⟨by omega, lcMD (fun d => .bl (rows2 d)) (fun x hx => ?_) ?_⟩, fun h2 => ?_⟩
      · have hx1 := okTs_mem h.2 hx
        have hx2 := List.all_eq_true.mp h2 x hx
        obtain ⟨a, b, rfl⟩ := two_eq hx2
        have hh := (okT_tup hx1).2
        rw [okTs, okTs, okTs, Bool.and_eq_true, Bool.and_true] at hh
        simp_arith [law_is_row m (by omega) a hh.1]
        cases ha : isRow a <;> simp_arith [law_is_row m (by omega) b hh.2, rows2, ha]
      · simp_arith [h2, isPoly, Bool.true_and, Bool.false_and]
      · simp_arith [h2, isPoly, Bool.true_and, Bool.false_and]
abbrev FORMSD : D := .dct [(.str "poly", .fn "is_told_poly"), (.str "fractions", .fn "are_pairs"), (.str "table", .fn "is_told_table"), (.str "row", .fn "is_row")]
theorem in1 : inD (.str "poly") FORMSD = some true := by kernel_rfl
theorem in2 : inD (.str "fractions") FORMSD = some true := by kernel_rfl
theorem in3 : inD (.str "table") FORMSD = some true := by kernel_rfl
theorem in4 : inD (.str "row") FORMSD = some true := by kernel_rfl
theorem at1 : subD FORMSD (.str "poly") = some (.fn "is_told_poly") := by kernel_rfl
theorem at2 : subD FORMSD (.str "fractions") = some (.fn "are_pairs") := by kernel_rfl
theorem at3 : subD FORMSD (.str "table") = some (.fn "is_told_table") := by kernel_rfl
theorem at4 : subD FORMSD (.str "row") = some (.fn "is_row") := by kernel_rfl
theorem has_form (n : Nat) (hn : 4 < n) (d : D) (h : okT d = true) :
    P.call n "has_form" [.frz (.str "row"), .frz d] = .ok (.frz (.bl (isRow d))) [.frz (.str "row"), .frz d] ∧
    P.call n "has_form" [.frz (.str "fractions"), .frz d] = .ok (.frz (.bl (arePairs d))) [.frz (.str "fractions"), .frz d] ∧
    P.call n "has_form" [.frz (.str "table"), .frz d] = .ok (.frz (.bl (isTable d))) [.frz (.str "table"), .frz d] ∧
    P.call n "has_form" [.frz (.str "poly"), .frz d] = .ok (.frz (.bl (isPoly d))) [.frz (.str "poly"), .frz d] := by
  refine ⟨?_, ?_, ?_, ?_⟩
  · refine FW_eq (call_W (by omega) lk_has_form rfl fun m _ => ?_)
    simp only [P_k21.f_has_form]
    simp_arith [in4, at4, is_row m (by omega) d h]
  · refine FW_eq (call_W (by omega) lk_has_form rfl fun m _ => ?_)
    simp only [P_k21.f_has_form]
    simp_arith [in2, at2, are_pairs m (by omega) d h]
  · refine FW_eq (call_W (by omega) lk_has_form rfl fun m _ => ?_)
    simp only [P_k21.f_has_form]
    simp_arith [in3, at3, is_told_table m (by omega) d h]
  · refine FW_eq (call_W (by omega) lk_has_form rfl fun m _ => ?_)
    simp only [P_k21.f_has_form]
    simp_arith [in1, at1, is_told_poly m (by omega) d h]
end Z.Y.N21
end

section
set_option Elab.async false
set_option linter.all false
set_option maxRecDepth 100000
set_option maxHeartbeats 1000000
namespace Z.Y.N21
open PySem
open Z.Y0 (eV eA eT eI eW eD eG eAs eDs eSp eTs eAnd eOr eCs eArg eIfs xSs xS lcR forR eGs eVs eGo isMk isTs isV isStar negD zipD enuD rvsD)
local macro_rules | `(tactic| simp_arith) => `(tactic| simp -dsimp only [Nat.reduceAdd, Nat.reduceSub, Nat.reduceLT, Nat.reduceLeDiff, Nat.reduceEqDiff, Nat.reduceBEq, Int.reduceEq, Int.reduceLT, Int.reduceLE, Int.reduceAdd, Int.reduceSub, Int.reduceMul, Int.reduceNeg, String.reduceEq, String.reduceBEq, ↓reduceIte, ↓W_ok, ↓W_ex, ↓W_st, W_ite, ↓FW_ok, ↓FW_ex, ↓FW_st, FW_ite, OK_some, OK_none, OK_itn, OK_map, OK_bind, BK_t, BK_f, BK_dec, BK_not, gK_frz, gK_lst, gK_dct, aK_val, aK_plc, vK_frz, vK_lst, vK_dct, pK_frz, pK_lst, pK_dct, pK_ins, pK_exc, KS_nx, KS_rt, KS_bk, KS_ct, KL_nx, KL_ct, KL_bk, KL_rt, ↓W_bind, ↓W_pure, ↓W_stuck, ↓W_opt, ↓W_iteM, ↓W_const, ↓dOf_W, ↓aOf_W, ↓tOf_W, ↓itOf_W, ↓one_W, ↓two_W, ↓many_W, ↓blM_W, ↓eA_mk, ↓eT_mk, ↓eW_mk, ↓eI_mk, ↓eA_ts, ↓eW_ts, ↓eD_W, frzO_frz, frzO_lst, frzO_dct, frzO_ins, frzO_exc, ↓eV_var, ↓eA_var, ↓eW_var, ↓eT_var, ↓eI_var, ↓eV_non, ↓eV_bl, ↓eV_int, ↓eV_str, ↓eV_glb, ↓eV_bin, ↓eV_neg, ↓eT_nt, ↓eV_nt, ↓eV_band, ↓eV_bor, ↓eT_band, ↓eT_bor, ↓eAnd_one, ↓eAnd_cons, ↓eOr_one, ↓eOr_cons, ↓eTs_nil, ↓eTs_and, ↓eTs_or, ↓eT_cmp, ↓eV_cmp, ↓eT_chn, ↓eV_chn, ↓eV_ife, ↓eAs_nil, ↓eAs_cons, ↓eDs_nil, ↓eDs_cons, ↓eSp_nil, ↓eSp_cons, ↓eSp_star, ↓eCs_nil, ↓eCs_cons, ↓eCs_nof, ↓eArg_lent, qK_frz, qK_lst, qK_dct, qK_exc, ↓eArg_var, ↓eArg_oth, gets_nil, gets_cons, ↓doCall_W, ↓eV_call, ↓eV_calle, getOs_nil, getOs_cons, getO_val, getO_plc, ↓eV_bi1, ↓eV_bi2, ↓eV_bi0, ↓eV_isi, ↓eI_range, ↓eI_zip, ↓eI_enum, ↓eI_rev, ↓eV_plain, mK_lst, ↓eV_mut, ↓eV_sub, oK_none, intK_int, oK_some, ↓eV_slc, ↓eV_rev, ↓eV_lst, ↓eV_tup, ↓eG_var, ↓eGs_nil, ↓eGs_cons, tK_tup, ↓eG_tup, ↓eG_sub, ↓xSs_nil, ↓xSs_cons, ↓xS_asg, ↓eVs_nil, ↓eVs_cons, ↓eGo_nil, ↓eGo_cons, ↓xS_asg2, ↓xS_retv, ↓xS_ret, ↓xS_retn, ↓xS_ifs, ↓xS_for, ↓forR_nil, ↓xS_brk, ↓xS_cnt, ↓xS_pas, ↓xS_expr, ↓xS_rais, ↓xS_try, ↓eIfs_nil, ↓eIfs_cons, ↓eV_lc, ↓lcR_nil, ofString_eq, ofString_beq, ↓isWalk_len, ↓isIsi_len, ↓isWalk_int, ↓isIsi_int, ↓isWalk_abs, ↓isIsi_abs, ↓isWalk_all, ↓isIsi_all, ↓isWalk_any, ↓isIsi_any, ↓isWalk_sum, ↓isIsi_sum, ↓isWalk_tuple, ↓isIsi_tuple, ↓isWalk_list, ↓isIsi_list, ↓isWalk_sorted, ↓isIsi_sorted, ↓isWalk_min, ↓isIsi_min, ↓isWalk_max, ↓isIsi_max, ↓isWalk_repr, ↓isIsi_repr, ↓isWalk_str, ↓isIsi_str, ↓isWalk_dict, ↓isIsi_dict, ↓isWalk_isinstance, ↓isIsi_isinstance, ↓biD_len, ↓biD_int, ↓biD_abs, ↓biD_all, ↓biD_any, ↓biD_sum, ↓biD_tuple, ↓biD_list, ↓biD_sorted, ↓biD_min, ↓biD_max, ↓biD_repr, ↓biD_str, ↓biD_dict, ↓isIv_index, ↓isMut_index, ↓isIv_count, ↓isMut_count, ↓isIv_get, ↓isMut_get, ↓isIv_join, ↓isMut_join, ↓isIv_split, ↓isMut_split, ↓isIv_startswith, ↓isMut_startswith, ↓isIv_endswith, ↓isMut_endswith, ↓isIv_append, ↓isMut_append, ↓isIv_extend, ↓isMut_extend, ↓isIv_reverse, ↓isMut_reverse, ↓isIv_pop, ↓isMut_pop, ↓isIv_insert, ↓isMut_insert, ↓isPl_index, ↓methD_index, ↓kindM_index_lst, ↓kindM_index_str, ↓isPl_count, ↓methD_count, ↓kindM_count_lst, ↓kindM_count_str, ↓isPl_get, ↓methD_get, ↓kindM_get_lst, ↓kindM_get_str, ↓isPl_join, ↓methD_join, ↓kindM_join_lst, ↓kindM_join_str, ↓isPl_split, ↓methD_split, ↓kindM_split_lst, ↓kindM_split_str, ↓isPl_startswith, ↓methD_startswith, ↓kindM_startswith_lst, ↓kindM_startswith_str, ↓isPl_endswith, ↓methD_endswith, ↓kindM_endswith_lst, ↓kindM_endswith_str, ↓mutD_append, ↓mutD_extend, ↓mutD_reverse, ↓mutD_pop, ↓mutD_insert, ↓bi_len_tup, ↓bi_len_lst, ↓bi_len_str, ↓bi_int_int, ↓bi_int_bl, ↓bi_int_str, ↓bi_abs_int, ↓bi_all_lst, ↓bi_any_lst, ↓bi_sum_lst, ↓bi_sum_tup, ↓bi_tuple_lst, ↓bi_tuple_tup, ↓bi_list_lst, ↓bi_list_tup, ↓bi_sorted_lst, ↓bi_sorted_tup, ↓bi_min_two, ↓bi_max_two, ↓bi_min_lst, ↓bi_max_lst, ↓bi_repr_one, ↓bi_str_int, ↓bi_str_str, ↓mt_index_lst, ↓mt_count_lst, ↓mt_join_lst, ↓mt_split_str, ↓mt_startswith_str, ↓mt_endswith_str, ↓mu_append_lst, ↓mu_extend_lst, ↓mu_reverse_lst, ↓mu_pop_lst, ↓mu_insert_lst, ↓binD_add, ↓binD_addb, ↓binD_adds, ↓binD_addt, ↓binD_addl, ↓binD_sub, ↓binD_mul, ↓binD_mull, ↓binD_fdv, ↓binD_mod, ↓binD_pow, ↓cmpD_eqs, ↓cmpD_nes, ↓cmpD_lt, ↓cmpD_lts, ↓cmpD_le, ↓cmpD_les, ↓cmpD_gt, ↓cmpD_ge, ↓cmpD_is, ↓cmpD_isn, ↓cmpD_isb, ↓cmpD_isnb, ↓cmpD_eqi, ↓cmpD_nei, ↓cmpD_in, ↓cmpD_nin, ↓subD_tup, ↓subD_lst, ↓subD_str, ↓slcD_tup, ↓slcD_lst, ↓slcD_str, ↓itemsD_tup, ↓itemsD_lst, ↓itemsD_str, ↓itemsD_scr, ↓revD_tup, ↓revD_lst, ↓negD_int, ↓tru_non, ↓tru_bl, ↓tru_int, ↓tru_str, ↓tru_tup, ↓tru_lst, ↓isNon_non, ↓isNon_bl, ↓isNon_int, ↓isNon_str, ↓isNon_tup, ↓isNon_lst, ↓isiD_non, ↓isiD_bl_int, ↓isiD_bl_bool, ↓isiD_bl_str, ↓isiD_bl_tuple, ↓isiD_bl_list, ↓isiD_bl_dict, ↓isiD_int_int, ↓isiD_int_bool, ↓isiD_int_str, ↓isiD_int_tuple, ↓isiD_int_list, ↓isiD_int_dict, ↓isiD_str_int, ↓isiD_str_bool, ↓isiD_str_str, ↓isiD_str_tuple, ↓isiD_str_list, ↓isiD_str_dict, ↓isiD_tup_int, ↓isiD_tup_bool, ↓isiD_tup_str, ↓isiD_tup_tuple, ↓isiD_tup_list, ↓isiD_tup_dict, ↓isiD_lst_int, ↓isiD_lst_bool, ↓isiD_lst_str, ↓isiD_lst_tuple, ↓isiD_lst_list, ↓isiD_lst_dict, ↓getO_zero, ↓getO_succ, ↓set_zero, ↓set_succ, ↓wipe_nil, ↓wipe_cons, ↓back_nil, ↓back_cons, ↓lb_lent, ↓lb_keep, ↓lb_val, ↓lb_nil, ↓lb_nof, ↓ol_nil, ↓ol_val, ↓ol_lent, ↓ol_exc, ↓tail_c, ↓tail_n, ↓plcs_nil, ↓plcs_val, ↓plcs_plc, ↓nodup_nil, ↓nodup_one, ↓outs_nil, ↓outs_frz, ↓outs_exc, ↓ownO_lst, ↓ownO_dct, ↓ownO_ins, ↓outs_lst, ↓outs_dct, ↓outs_ins, all_id, any_id, blsD_map, intsD_map, strsD_map, strsD_str, ↓isV_non, ↓isStar_non, ↓isMk_non, ↓isTs_non, ↓isTup2l_non, ↓isTup2r_non, ↓isV_bl, ↓isStar_bl, ↓isMk_bl, ↓isTs_bl, ↓isTup2l_bl, ↓isTup2r_bl, ↓isV_int, ↓isStar_int, ↓isMk_int, ↓isTs_int, ↓isTup2l_int, ↓isTup2r_int, ↓isV_str, ↓isStar_str, ↓isMk_str, ↓isTs_str, ↓isTup2l_str, ↓isTup2r_str, ↓isV_var, ↓isStar_var, ↓isMk_var, ↓isTs_var, ↓isTup2l_var, ↓isTup2r_var, ↓isV_glb, ↓isStar_glb, ↓isMk_glb, ↓isTs_glb, ↓isTup2l_glb, ↓isTup2r_glb, ↓isV_bin, ↓isStar_bin, ↓isMk_bin, ↓isTs_bin, ↓isTup2l_bin, ↓isTup2r_bin, ↓isV_neg, ↓isStar_neg, ↓isMk_neg, ↓isTs_neg, ↓isTup2l_neg, ↓isTup2r_neg, ↓isV_nt, ↓isStar_nt, ↓isMk_nt, ↓isTs_nt, ↓isTup2l_nt, ↓isTup2r_nt, ↓isV_band, ↓isStar_band, ↓isMk_band, ↓isTs_band, ↓isTup2l_band, ↓isTup2r_band, ↓isV_bor, ↓isStar_bor, ↓isMk_bor, ↓isTs_bor, ↓isTup2l_bor, ↓isTup2r_bor, ↓isV_cmp, ↓isStar_cmp, ↓isMk_cmp, ↓isTs_cmp, ↓isTup2l_cmp, ↓isTup2r_cmp, ↓isV_chn, ↓isStar_chn, ↓isMk_chn, ↓isTs_chn, ↓isTup2l_chn, ↓isTup2r_chn, ↓isV_chn3, ↓isStar_chn3, ↓isMk_chn3, ↓isTs_chn3, ↓isTup2l_chn3, ↓isTup2r_chn3, ↓isV_ife, ↓isStar_ife, ↓isMk_ife, ↓isTs_ife, ↓isTup2l_ife, ↓isTup2r_ife, ↓isV_call, ↓isStar_call, ↓isMk_call, ↓isTs_call, ↓isTup2l_call, ↓isTup2r_call, ↓isV_bi, ↓isStar_bi, ↓isMk_bi, ↓isTs_bi, ↓isTup2l_bi, ↓isTup2r_bi, ↓isV_calle, ↓isStar_calle, ↓isMk_calle, ↓isTs_calle, ↓isTup2l_calle, ↓isTup2r_calle, ↓isV_meth, ↓isStar_meth, ↓isMk_meth, ↓isTs_meth, ↓isTup2l_meth, ↓isTup2r_meth, ↓isV_attr, ↓isStar_attr, ↓isMk_attr, ↓isTs_attr, ↓isTup2l_attr, ↓isTup2r_attr, ↓isV_sub, ↓isStar_sub, ↓isMk_sub, ↓isTs_sub, ↓isTup2l_sub, ↓isTup2r_sub, ↓isV_slc, ↓isStar_slc, ↓isMk_slc, ↓isTs_slc, ↓isTup2l_slc, ↓isTup2r_slc, ↓isV_lst, ↓isStar_lst, ↓isMk_lst, ↓isTs_lst, ↓isTup2l_lst, ↓isTup2r_lst, ↓isV_tup, ↓isStar_tup, ↓isMk_tup, ↓isTs_tup, ↓isV_star, ↓isStar_star, ↓isMk_star, ↓isTs_star, ↓isTup2l_star, ↓isTup2r_star, ↓isV_dic, ↓isStar_dic, ↓isMk_dic, ↓isTs_dic, ↓isTup2l_dic, ↓isTup2r_dic, ↓isV_lc, ↓isStar_lc, ↓isMk_lc, ↓isTs_lc, ↓isTup2l_lc, ↓isTup2r_lc, ↓isV_lc2, ↓isStar_lc2, ↓isMk_lc2, ↓isTs_lc2, ↓isTup2l_lc2, ↓isTup2r_lc2, ↓isV_dc, ↓isStar_dc, ↓isMk_dc, ↓isTs_dc, ↓isTup2l_dc, ↓isTup2r_dc, ↓isWalk_range, ↓isWalk_zip, ↓isWalk_enumerate, ↓isWalk_reversed, ↓nd0, ↓nd1, ↓nd2, ↓nd3, ↓true_eq, ↓false_eq, ↓tf_eq, ↓ft_eq, ↓rep_zero, ↓rep_succ, not_t, not_f, band_t, band_f, and_tt, and_tr, and_fl, and_fr, imp_t, imp_f, imp_tt, n_t, n_f, dec_eq, dec_ne, bnot_eq, bnot_ne, band_eq, eq_self', mapc, mapn, appc, appn, lenc, lmap, lapp, lrange, cps_len, lenn, noExc_cons, noExc_nil, nx1_frz, nx1_lst, nx1_dct, nx1_ins, nx1_none, noExcR_nx, noExcR_frz, noExcR_lst, noExcR_dct, drs_len, drs_app, drs_snoc, drs_three, drs_rev, drs_empty, lim_eq, ↓le_is_integer, ↓ar_is_integer, ↓le_is_row, ↓ar_is_row, ↓le_are_pairs, ↓ar_are_pairs, ↓le_is_told_table, ↓ar_is_told_table, ↓le_is_told_poly, ↓ar_is_told_poly, ↓le_has_form, ↓ar_has_form, ↓le_words_of, ↓ar_words_of, ↓le_is_name, ↓ar_is_name, ↓le_number_in, ↓ar_number_in, ↓le__law_number, ↓ar__law_number, ↓le__law_draws, ↓ar__law_draws, ↓le__law_next, ↓ar__law_next, ↓le__law_more, ↓ar__law_more, ↓le__law_pick, ↓ar__law_pick, ↓le__law_kind, ↓ar__law_kind, ↓le__law_line, ↓ar__law_line, ↓le__law_number_of, ↓ar__law_number_of, ↓le__law_is_row, ↓ar__law_is_row, ↓le__law_are_pairs, ↓ar__law_are_pairs, ↓le__law_due, ↓ar__law_due, ↓le__law_spoilt, ↓ar__law_spoilt, ↓le_law, ↓ar_law, ↓cls_int, ↓cls_bool, ↓cls_str, ↓cls_tuple, ↓cls_list, ↓cls_dict, ↓cls_BelowError, ↓fld_BelowError, ↓cls_NotPoly, ↓fld_NotPoly, ↓cls_NotTable, ↓fld_NotTable, ↓cls_NotPlace, ↓fld_NotPlace, ↓cls_NotPaper, ↓fld_NotPaper, ↓cls_BadNumber, ↓fld_BadNumber, ↓cls_NoAnswer, ↓fld_NoAnswer, ↓cls_TooLarge, ↓fld_TooLarge, ↓sub_BelowError_BelowError, ↓sub_BelowError_NotPoly, ↓sub_BelowError_NotTable, ↓sub_BelowError_NotPlace, ↓sub_BelowError_NotPaper, ↓sub_BelowError_BadNumber, ↓sub_BelowError_NoAnswer, ↓sub_BelowError_TooLarge, ↓sub_BelowError_ValueError, ↓sub_NotPoly_BelowError, ↓sub_NotPoly_NotPoly, ↓sub_NotPoly_NotTable, ↓sub_NotPoly_NotPlace, ↓sub_NotPoly_NotPaper, ↓sub_NotPoly_BadNumber, ↓sub_NotPoly_NoAnswer, ↓sub_NotPoly_TooLarge, ↓sub_NotPoly_ValueError, ↓sub_NotTable_BelowError, ↓sub_NotTable_NotPoly, ↓sub_NotTable_NotTable, ↓sub_NotTable_NotPlace, ↓sub_NotTable_NotPaper, ↓sub_NotTable_BadNumber, ↓sub_NotTable_NoAnswer, ↓sub_NotTable_TooLarge, ↓sub_NotTable_ValueError, ↓sub_NotPlace_BelowError, ↓sub_NotPlace_NotPoly, ↓sub_NotPlace_NotTable, ↓sub_NotPlace_NotPlace, ↓sub_NotPlace_NotPaper, ↓sub_NotPlace_BadNumber, ↓sub_NotPlace_NoAnswer, ↓sub_NotPlace_TooLarge, ↓sub_NotPlace_ValueError, ↓sub_NotPaper_BelowError, ↓sub_NotPaper_NotPoly, ↓sub_NotPaper_NotTable, ↓sub_NotPaper_NotPlace, ↓sub_NotPaper_NotPaper, ↓sub_NotPaper_BadNumber, ↓sub_NotPaper_NoAnswer, ↓sub_NotPaper_TooLarge, ↓sub_NotPaper_ValueError, ↓sub_BadNumber_BelowError, ↓sub_BadNumber_NotPoly, ↓sub_BadNumber_NotTable, ↓sub_BadNumber_NotPlace, ↓sub_BadNumber_NotPaper, ↓sub_BadNumber_BadNumber, ↓sub_BadNumber_NoAnswer, ↓sub_BadNumber_TooLarge, ↓sub_BadNumber_ValueError, ↓sub_NoAnswer_BelowError, ↓sub_NoAnswer_NotPoly, ↓sub_NoAnswer_NotTable, ↓sub_NoAnswer_NotPlace, ↓sub_NoAnswer_NotPaper, ↓sub_NoAnswer_BadNumber, ↓sub_NoAnswer_NoAnswer, ↓sub_NoAnswer_TooLarge, ↓sub_NoAnswer_ValueError, ↓sub_TooLarge_BelowError, ↓sub_TooLarge_NotPoly, ↓sub_TooLarge_NotTable, ↓sub_TooLarge_NotPlace, ↓sub_TooLarge_NotPaper, ↓sub_TooLarge_BadNumber, ↓sub_TooLarge_NoAnswer, ↓sub_TooLarge_TooLarge, ↓sub_TooLarge_ValueError, ↓con_int, ↓con_str, ↓con_bool, ↓con_tuple, ↓con_list, ↓con_dict, ↓con_BelowError, ↓con_NotPoly, ↓con_NotTable, ↓con_NotPlace, ↓con_NotPaper, ↓con_BadNumber, ↓con_NoAnswer, ↓con_TooLarge, ↓con_is_integer, ↓con_is_row, ↓con_are_pairs, ↓con_is_told_table, ↓con_is_told_poly, ↓con_FORMS, ↓con_has_form, ↓con_SMALL, ↓con_FIGURES, ↓con_words_of, ↓con_is_name, ↓con_number_in, ↓con__law_number, ↓con__law_draws, ↓con__law_next, ↓con__law_more, ↓con__law_pick, ↓con__law_kind, ↓con__law_line, ↓con__law_number_of, ↓con__law_is_row, ↓con__law_are_pairs, ↓con__law_due, ↓con__law_spoilt, ↓con_law, ↓call_c])
local macro_rules | `(tactic| simp_arith [$ls:simpLemma,*]) => `(tactic| simp -dsimp only [Nat.reduceAdd, Nat.reduceSub, Nat.reduceLT, Nat.reduceLeDiff, Nat.reduceEqDiff, Nat.reduceBEq, Int.reduceEq, Int.reduceLT, Int.reduceLE, Int.reduceAdd, Int.reduceSub, Int.reduceMul, Int.reduceNeg, String.reduceEq, String.reduceBEq, ↓reduceIte, ↓W_ok, ↓W_ex, ↓W_st, W_ite, ↓FW_ok, ↓FW_ex, ↓FW_st, FW_ite, OK_some, OK_none, OK_itn, OK_map, OK_bind, BK_t, BK_f, BK_dec, BK_not, gK_frz, gK_lst, gK_dct, aK_val, aK_plc, vK_frz, vK_lst, vK_dct, pK_frz, pK_lst, pK_dct, pK_ins, pK_exc, KS_nx, KS_rt, KS_bk, KS_ct, KL_nx, KL_ct, KL_bk, KL_rt, ↓W_bind, ↓W_pure, ↓W_stuck, ↓W_opt, ↓W_iteM, ↓W_const, ↓dOf_W, ↓aOf_W, ↓tOf_W, ↓itOf_W, ↓one_W, ↓two_W, ↓many_W, ↓blM_W, ↓eA_mk, ↓eT_mk, ↓eW_mk, ↓eI_mk, ↓eA_ts, ↓eW_ts, ↓eD_W, frzO_frz, frzO_lst, frzO_dct, frzO_ins, frzO_exc, ↓eV_var, ↓eA_var, ↓eW_var, ↓eT_var, ↓eI_var, ↓eV_non, ↓eV_bl, ↓eV_int, ↓eV_str, ↓eV_glb, ↓eV_bin, ↓eV_neg, ↓eT_nt, ↓eV_nt, ↓eV_band, ↓eV_bor, ↓eT_band, ↓eT_bor, ↓eAnd_one, ↓eAnd_cons, ↓eOr_one, ↓eOr_cons, ↓eTs_nil, ↓eTs_and, ↓eTs_or, ↓eT_cmp, ↓eV_cmp, ↓eT_chn, ↓eV_chn, ↓eV_ife, ↓eAs_nil, ↓eAs_cons, ↓eDs_nil, ↓eDs_cons, ↓eSp_nil, ↓eSp_cons, ↓eSp_star, ↓eCs_nil, ↓eCs_cons, ↓eCs_nof, ↓eArg_lent, qK_frz, qK_lst, qK_dct, qK_exc, ↓eArg_var, ↓eArg_oth, gets_nil, gets_cons, ↓doCall_W, ↓eV_call, ↓eV_calle, getOs_nil, getOs_cons, getO_val, getO_plc, ↓eV_bi1, ↓eV_bi2, ↓eV_bi0, ↓eV_isi, ↓eI_range, ↓eI_zip, ↓eI_enum, ↓eI_rev, ↓eV_plain, mK_lst, ↓eV_mut, ↓eV_sub, oK_none, intK_int, oK_some, ↓eV_slc, ↓eV_rev, ↓eV_lst, ↓eV_tup, ↓eG_var, ↓eGs_nil, ↓eGs_cons, tK_tup, ↓eG_tup, ↓eG_sub, ↓xSs_nil, ↓xSs_cons, ↓xS_asg, ↓eVs_nil, ↓eVs_cons, ↓eGo_nil, ↓eGo_cons, ↓xS_asg2, ↓xS_retv, ↓xS_ret, ↓xS_retn, ↓xS_ifs, ↓xS_for, ↓forR_nil, ↓xS_brk, ↓xS_cnt, ↓xS_pas, ↓xS_expr, ↓xS_rais, ↓xS_try, ↓eIfs_nil, ↓eIfs_cons, ↓eV_lc, ↓lcR_nil, ofString_eq, ofString_beq, ↓isWalk_len, ↓isIsi_len, ↓isWalk_int, ↓isIsi_int, ↓isWalk_abs, ↓isIsi_abs, ↓isWalk_all, ↓isIsi_all, ↓isWalk_any, ↓isIsi_any, ↓isWalk_sum, ↓isIsi_sum, ↓isWalk_tuple, ↓isIsi_tuple, ↓isWalk_list, ↓isIsi_list, ↓isWalk_sorted, ↓isIsi_sorted, ↓isWalk_min, ↓isIsi_min, ↓isWalk_max, ↓isIsi_max, ↓isWalk_repr, ↓isIsi_repr, ↓isWalk_str, ↓isIsi_str, ↓isWalk_dict, ↓isIsi_dict, ↓isWalk_isinstance, ↓isIsi_isinstance, ↓biD_len, ↓biD_int, ↓biD_abs, ↓biD_all, ↓biD_any, ↓biD_sum, ↓biD_tuple, ↓biD_list, ↓biD_sorted, ↓biD_min, ↓biD_max, ↓biD_repr, ↓biD_str, ↓biD_dict, ↓isIv_index, ↓isMut_index, ↓isIv_count, ↓isMut_count, ↓isIv_get, ↓isMut_get, ↓isIv_join, ↓isMut_join, ↓isIv_split, ↓isMut_split, ↓isIv_startswith, ↓isMut_startswith, ↓isIv_endswith, ↓isMut_endswith, ↓isIv_append, ↓isMut_append, ↓isIv_extend, ↓isMut_extend, ↓isIv_reverse, ↓isMut_reverse, ↓isIv_pop, ↓isMut_pop, ↓isIv_insert, ↓isMut_insert, ↓isPl_index, ↓methD_index, ↓kindM_index_lst, ↓kindM_index_str, ↓isPl_count, ↓methD_count, ↓kindM_count_lst, ↓kindM_count_str, ↓isPl_get, ↓methD_get, ↓kindM_get_lst, ↓kindM_get_str, ↓isPl_join, ↓methD_join, ↓kindM_join_lst, ↓kindM_join_str, ↓isPl_split, ↓methD_split, ↓kindM_split_lst, ↓kindM_split_str, ↓isPl_startswith, ↓methD_startswith, ↓kindM_startswith_lst, ↓kindM_startswith_str, ↓isPl_endswith, ↓methD_endswith, ↓kindM_endswith_lst, ↓kindM_endswith_str, ↓mutD_append, ↓mutD_extend, ↓mutD_reverse, ↓mutD_pop, ↓mutD_insert, ↓bi_len_tup, ↓bi_len_lst, ↓bi_len_str, ↓bi_int_int, ↓bi_int_bl, ↓bi_int_str, ↓bi_abs_int, ↓bi_all_lst, ↓bi_any_lst, ↓bi_sum_lst, ↓bi_sum_tup, ↓bi_tuple_lst, ↓bi_tuple_tup, ↓bi_list_lst, ↓bi_list_tup, ↓bi_sorted_lst, ↓bi_sorted_tup, ↓bi_min_two, ↓bi_max_two, ↓bi_min_lst, ↓bi_max_lst, ↓bi_repr_one, ↓bi_str_int, ↓bi_str_str, ↓mt_index_lst, ↓mt_count_lst, ↓mt_join_lst, ↓mt_split_str, ↓mt_startswith_str, ↓mt_endswith_str, ↓mu_append_lst, ↓mu_extend_lst, ↓mu_reverse_lst, ↓mu_pop_lst, ↓mu_insert_lst, ↓binD_add, ↓binD_addb, ↓binD_adds, ↓binD_addt, ↓binD_addl, ↓binD_sub, ↓binD_mul, ↓binD_mull, ↓binD_fdv, ↓binD_mod, ↓binD_pow, ↓cmpD_eqs, ↓cmpD_nes, ↓cmpD_lt, ↓cmpD_lts, ↓cmpD_le, ↓cmpD_les, ↓cmpD_gt, ↓cmpD_ge, ↓cmpD_is, ↓cmpD_isn, ↓cmpD_isb, ↓cmpD_isnb, ↓cmpD_eqi, ↓cmpD_nei, ↓cmpD_in, ↓cmpD_nin, ↓subD_tup, ↓subD_lst, ↓subD_str, ↓slcD_tup, ↓slcD_lst, ↓slcD_str, ↓itemsD_tup, ↓itemsD_lst, ↓itemsD_str, ↓itemsD_scr, ↓revD_tup, ↓revD_lst, ↓negD_int, ↓tru_non, ↓tru_bl, ↓tru_int, ↓tru_str, ↓tru_tup, ↓tru_lst, ↓isNon_non, ↓isNon_bl, ↓isNon_int, ↓isNon_str, ↓isNon_tup, ↓isNon_lst, ↓isiD_non, ↓isiD_bl_int, ↓isiD_bl_bool, ↓isiD_bl_str, ↓isiD_bl_tuple, ↓isiD_bl_list, ↓isiD_bl_dict, ↓isiD_int_int, ↓isiD_int_bool, ↓isiD_int_str, ↓isiD_int_tuple, ↓isiD_int_list, ↓isiD_int_dict, ↓isiD_str_int, ↓isiD_str_bool, ↓isiD_str_str, ↓isiD_str_tuple, ↓isiD_str_list, ↓isiD_str_dict, ↓isiD_tup_int, ↓isiD_tup_bool, ↓isiD_tup_str, ↓isiD_tup_tuple, ↓isiD_tup_list, ↓isiD_tup_dict, ↓isiD_lst_int, ↓isiD_lst_bool, ↓isiD_lst_str, ↓isiD_lst_tuple, ↓isiD_lst_list, ↓isiD_lst_dict, ↓getO_zero, ↓getO_succ, ↓set_zero, ↓set_succ, ↓wipe_nil, ↓wipe_cons, ↓back_nil, ↓back_cons, ↓lb_lent, ↓lb_keep, ↓lb_val, ↓lb_nil, ↓lb_nof, ↓ol_nil, ↓ol_val, ↓ol_lent, ↓ol_exc, ↓tail_c, ↓tail_n, ↓plcs_nil, ↓plcs_val, ↓plcs_plc, ↓nodup_nil, ↓nodup_one, ↓outs_nil, ↓outs_frz, ↓outs_exc, ↓ownO_lst, ↓ownO_dct, ↓ownO_ins, ↓outs_lst, ↓outs_dct, ↓outs_ins, all_id, any_id, blsD_map, intsD_map, strsD_map, strsD_str, ↓isV_non, ↓isStar_non, ↓isMk_non, ↓isTs_non, ↓isTup2l_non, ↓isTup2r_non, ↓isV_bl, ↓isStar_bl, ↓isMk_bl, ↓isTs_bl, ↓isTup2l_bl, ↓isTup2r_bl, ↓isV_int, ↓isStar_int, ↓isMk_int, ↓isTs_int, ↓isTup2l_int, ↓isTup2r_int, ↓isV_str, ↓isStar_str, ↓isMk_str, ↓isTs_str, ↓isTup2l_str, ↓isTup2r_str, ↓isV_var, ↓isStar_var, ↓isMk_var, ↓isTs_var, ↓isTup2l_var, ↓isTup2r_var, ↓isV_glb, ↓isStar_glb, ↓isMk_glb, ↓isTs_glb, ↓isTup2l_glb, ↓isTup2r_glb, ↓isV_bin, ↓isStar_bin, ↓isMk_bin, ↓isTs_bin, ↓isTup2l_bin, ↓isTup2r_bin, ↓isV_neg, ↓isStar_neg, ↓isMk_neg, ↓isTs_neg, ↓isTup2l_neg, ↓isTup2r_neg, ↓isV_nt, ↓isStar_nt, ↓isMk_nt, ↓isTs_nt, ↓isTup2l_nt, ↓isTup2r_nt, ↓isV_band, ↓isStar_band, ↓isMk_band, ↓isTs_band, ↓isTup2l_band, ↓isTup2r_band, ↓isV_bor, ↓isStar_bor, ↓isMk_bor, ↓isTs_bor, ↓isTup2l_bor, ↓isTup2r_bor, ↓isV_cmp, ↓isStar_cmp, ↓isMk_cmp, ↓isTs_cmp, ↓isTup2l_cmp, ↓isTup2r_cmp, ↓isV_chn, ↓isStar_chn, ↓isMk_chn, ↓isTs_chn, ↓isTup2l_chn, ↓isTup2r_chn, ↓isV_chn3, ↓isStar_chn3, ↓isMk_chn3, ↓isTs_chn3, ↓isTup2l_chn3, ↓isTup2r_chn3, ↓isV_ife, ↓isStar_ife, ↓isMk_ife, ↓isTs_ife, ↓isTup2l_ife, ↓isTup2r_ife, ↓isV_call, ↓isStar_call, ↓isMk_call, ↓isTs_call, ↓isTup2l_call, ↓isTup2r_call, ↓isV_bi, ↓isStar_bi, ↓isMk_bi, ↓isTs_bi, ↓isTup2l_bi, ↓isTup2r_bi, ↓isV_calle, ↓isStar_calle, ↓isMk_calle, ↓isTs_calle, ↓isTup2l_calle, ↓isTup2r_calle, ↓isV_meth, ↓isStar_meth, ↓isMk_meth, ↓isTs_meth, ↓isTup2l_meth, ↓isTup2r_meth, ↓isV_attr, ↓isStar_attr, ↓isMk_attr, ↓isTs_attr, ↓isTup2l_attr, ↓isTup2r_attr, ↓isV_sub, ↓isStar_sub, ↓isMk_sub, ↓isTs_sub, ↓isTup2l_sub, ↓isTup2r_sub, ↓isV_slc, ↓isStar_slc, ↓isMk_slc, ↓isTs_slc, ↓isTup2l_slc, ↓isTup2r_slc, ↓isV_lst, ↓isStar_lst, ↓isMk_lst, ↓isTs_lst, ↓isTup2l_lst, ↓isTup2r_lst, ↓isV_tup, ↓isStar_tup, ↓isMk_tup, ↓isTs_tup, ↓isV_star, ↓isStar_star, ↓isMk_star, ↓isTs_star, ↓isTup2l_star, ↓isTup2r_star, ↓isV_dic, ↓isStar_dic, ↓isMk_dic, ↓isTs_dic, ↓isTup2l_dic, ↓isTup2r_dic, ↓isV_lc, ↓isStar_lc, ↓isMk_lc, ↓isTs_lc, ↓isTup2l_lc, ↓isTup2r_lc, ↓isV_lc2, ↓isStar_lc2, ↓isMk_lc2, ↓isTs_lc2, ↓isTup2l_lc2, ↓isTup2r_lc2, ↓isV_dc, ↓isStar_dc, ↓isMk_dc, ↓isTs_dc, ↓isTup2l_dc, ↓isTup2r_dc, ↓isWalk_range, ↓isWalk_zip, ↓isWalk_enumerate, ↓isWalk_reversed, ↓nd0, ↓nd1, ↓nd2, ↓nd3, ↓true_eq, ↓false_eq, ↓tf_eq, ↓ft_eq, ↓rep_zero, ↓rep_succ, not_t, not_f, band_t, band_f, and_tt, and_tr, and_fl, and_fr, imp_t, imp_f, imp_tt, n_t, n_f, dec_eq, dec_ne, bnot_eq, bnot_ne, band_eq, eq_self', mapc, mapn, appc, appn, lenc, lmap, lapp, lrange, cps_len, lenn, noExc_cons, noExc_nil, nx1_frz, nx1_lst, nx1_dct, nx1_ins, nx1_none, noExcR_nx, noExcR_frz, noExcR_lst, noExcR_dct, drs_len, drs_app, drs_snoc, drs_three, drs_rev, drs_empty, lim_eq, ↓le_is_integer, ↓ar_is_integer, ↓le_is_row, ↓ar_is_row, ↓le_are_pairs, ↓ar_are_pairs, ↓le_is_told_table, ↓ar_is_told_table, ↓le_is_told_poly, ↓ar_is_told_poly, ↓le_has_form, ↓ar_has_form, ↓le_words_of, ↓ar_words_of, ↓le_is_name, ↓ar_is_name, ↓le_number_in, ↓ar_number_in, ↓le__law_number, ↓ar__law_number, ↓le__law_draws, ↓ar__law_draws, ↓le__law_next, ↓ar__law_next, ↓le__law_more, ↓ar__law_more, ↓le__law_pick, ↓ar__law_pick, ↓le__law_kind, ↓ar__law_kind, ↓le__law_line, ↓ar__law_line, ↓le__law_number_of, ↓ar__law_number_of, ↓le__law_is_row, ↓ar__law_is_row, ↓le__law_are_pairs, ↓ar__law_are_pairs, ↓le__law_due, ↓ar__law_due, ↓le__law_spoilt, ↓ar__law_spoilt, ↓le_law, ↓ar_law, ↓cls_int, ↓cls_bool, ↓cls_str, ↓cls_tuple, ↓cls_list, ↓cls_dict, ↓cls_BelowError, ↓fld_BelowError, ↓cls_NotPoly, ↓fld_NotPoly, ↓cls_NotTable, ↓fld_NotTable, ↓cls_NotPlace, ↓fld_NotPlace, ↓cls_NotPaper, ↓fld_NotPaper, ↓cls_BadNumber, ↓fld_BadNumber, ↓cls_NoAnswer, ↓fld_NoAnswer, ↓cls_TooLarge, ↓fld_TooLarge, ↓sub_BelowError_BelowError, ↓sub_BelowError_NotPoly, ↓sub_BelowError_NotTable, ↓sub_BelowError_NotPlace, ↓sub_BelowError_NotPaper, ↓sub_BelowError_BadNumber, ↓sub_BelowError_NoAnswer, ↓sub_BelowError_TooLarge, ↓sub_BelowError_ValueError, ↓sub_NotPoly_BelowError, ↓sub_NotPoly_NotPoly, ↓sub_NotPoly_NotTable, ↓sub_NotPoly_NotPlace, ↓sub_NotPoly_NotPaper, ↓sub_NotPoly_BadNumber, ↓sub_NotPoly_NoAnswer, ↓sub_NotPoly_TooLarge, ↓sub_NotPoly_ValueError, ↓sub_NotTable_BelowError, ↓sub_NotTable_NotPoly, ↓sub_NotTable_NotTable, ↓sub_NotTable_NotPlace, ↓sub_NotTable_NotPaper, ↓sub_NotTable_BadNumber, ↓sub_NotTable_NoAnswer, ↓sub_NotTable_TooLarge, ↓sub_NotTable_ValueError, ↓sub_NotPlace_BelowError, ↓sub_NotPlace_NotPoly, ↓sub_NotPlace_NotTable, ↓sub_NotPlace_NotPlace, ↓sub_NotPlace_NotPaper, ↓sub_NotPlace_BadNumber, ↓sub_NotPlace_NoAnswer, ↓sub_NotPlace_TooLarge, ↓sub_NotPlace_ValueError, ↓sub_NotPaper_BelowError, ↓sub_NotPaper_NotPoly, ↓sub_NotPaper_NotTable, ↓sub_NotPaper_NotPlace, ↓sub_NotPaper_NotPaper, ↓sub_NotPaper_BadNumber, ↓sub_NotPaper_NoAnswer, ↓sub_NotPaper_TooLarge, ↓sub_NotPaper_ValueError, ↓sub_BadNumber_BelowError, ↓sub_BadNumber_NotPoly, ↓sub_BadNumber_NotTable, ↓sub_BadNumber_NotPlace, ↓sub_BadNumber_NotPaper, ↓sub_BadNumber_BadNumber, ↓sub_BadNumber_NoAnswer, ↓sub_BadNumber_TooLarge, ↓sub_BadNumber_ValueError, ↓sub_NoAnswer_BelowError, ↓sub_NoAnswer_NotPoly, ↓sub_NoAnswer_NotTable, ↓sub_NoAnswer_NotPlace, ↓sub_NoAnswer_NotPaper, ↓sub_NoAnswer_BadNumber, ↓sub_NoAnswer_NoAnswer, ↓sub_NoAnswer_TooLarge, ↓sub_NoAnswer_ValueError, ↓sub_TooLarge_BelowError, ↓sub_TooLarge_NotPoly, ↓sub_TooLarge_NotTable, ↓sub_TooLarge_NotPlace, ↓sub_TooLarge_NotPaper, ↓sub_TooLarge_BadNumber, ↓sub_TooLarge_NoAnswer, ↓sub_TooLarge_TooLarge, ↓sub_TooLarge_ValueError, ↓con_int, ↓con_str, ↓con_bool, ↓con_tuple, ↓con_list, ↓con_dict, ↓con_BelowError, ↓con_NotPoly, ↓con_NotTable, ↓con_NotPlace, ↓con_NotPaper, ↓con_BadNumber, ↓con_NoAnswer, ↓con_TooLarge, ↓con_is_integer, ↓con_is_row, ↓con_are_pairs, ↓con_is_told_table, ↓con_is_told_poly, ↓con_FORMS, ↓con_has_form, ↓con_SMALL, ↓con_FIGURES, ↓con_words_of, ↓con_is_name, ↓con_number_in, ↓con__law_number, ↓con__law_draws, ↓con__law_next, ↓con__law_more, ↓con__law_pick, ↓con__law_kind, ↓con__law_line, ↓con__law_number_of, ↓con__law_is_row, ↓con__law_are_pairs, ↓con__law_due, ↓con__law_spoilt, ↓con_law, ↓call_c, $ls,*])
/-! lines -/
def goodC (c : Nat) : Bool := if (!decide ((⟨#[c]⟩ : Str).cps.toList < ("!" : Str).cps.toList)) then !decide (("~" : Str).cps.toList < (⟨#[c]⟩ : Str).cps.toList) else false
def badW (w : Str) : Bool := decide (w = "") || !(w.cps.toList.all goodC)
def wordsF (z : Str) : D := if (Txt.split z " ").any badW then .non else .lst ((Txt.split z " ").map .str)
theorem words_of (n : Nat) (hn : 0 < n) (z : Str) (hz : z.length ≤ 100) (hw : ∀ w ∈ Txt.split z " ", w.length ≤ 100) : P.call n "words_of" [.frz (.str z)] = .ok (.frz (wordsF z)) [.frz (.str z)] := by
  refine FW_eq (call_W (by omega) lk_words_of rfl fun m _ => ?_)
  simp only [P_k21.f_words_of]
  simp_arith
  refine ⟨⟨by decide +kernel, by omega⟩, ?_⟩
  refine forT _ _ (fun dn s => ∃ j1 j2, s = [some (.frz (.str z)), some (.frz (.lst ((Txt.split z " ").map .str))), j1, j2] ∧ dn.any badW = false) ?_ ?_ ?_
  · exact ⟨none, none, rfl, rfl⟩
  · rintro dn x rs _ e ⟨j1, j2, rfl, hd⟩
    have hx := hw x (by rw [e]; simp)
    by_cases h0 : x = ""
    · simp_arith [h0]
      rw [wordsF, if_pos (List.any_eq_true.mpr ⟨x, by rw [e]; simp, by rw [badW, decide_eq_true h0]; rfl⟩)]
    · simp_arith [h0]
      refine ⟨by omega, lcM1 _ _ (fun c => .bl (goodC c)) (fun c hc => ?_) ?_⟩
      · simp_arith [goodC]
        refine ⟨fun h1 => ?_, fun h1 => ?_⟩
        · rw [if_neg (by simpa using h1)]
        · rw [if_pos (by simpa using h1)]
      · (simp_arith; simp -dsimp only [BK_any]; simp_arith)
        refine ⟨fun h1 => ?_, fun h1 => ?_⟩
        · refine ⟨_, _, rfl, ?_⟩
          rw [List.any_append, hd, List.any_cons, badW, h1, decide_eq_false h0]; rfl
        · rw [wordsF, if_pos (List.any_eq_true.mpr ⟨x, by rw [e]; simp, by rw [badW, h1]; simp⟩)]
  · rintro _ ⟨j1, j2, rfl, hd⟩
    simp_arith
    rw [wordsF, hd]; rfl
theorem law_line (n : Nat) (hn : 0 < n) (z : Str) (hz : z.length ≤ 100) (hw : ∀ w ∈ Txt.split z " ", w.length ≤ 100) : P.call n "_law_line" [.frz (.str z)] = .ok (.frz (wordsF z)) [.frz (.str z)] := by
  refine FW_eq (call_W (by omega) lk__law_line rfl fun m _ => ?_)
  simp only [P_k21.f__law_line]
  simp_arith
  refine ⟨⟨by decide +kernel, by omega⟩, ?_⟩
  refine forT _ _ (fun dn s => ∃ j1 j2, s = [some (.frz (.str z)), some (.frz (.lst ((Txt.split z " ").map .str))), j1, j2] ∧ dn.any badW = false) ?_ ?_ ?_
  · exact ⟨none, none, rfl, rfl⟩
  · rintro dn x rs _ e ⟨j1, j2, rfl, hd⟩
    have hx := hw x (by rw [e]; simp)
    by_cases h0 : x = ""
    · simp_arith [h0]
      rw [wordsF, if_pos (List.any_eq_true.mpr ⟨x, by rw [e]; simp, by rw [badW, decide_eq_true h0]; rfl⟩)]
    · simp_arith [h0]
      refine ⟨by omega, lcM1 _ _ (fun c => .bl (goodC c)) (fun c hc => ?_) ?_⟩
      · simp_arith [goodC]
        refine ⟨fun h1 => ?_, fun h1 => ?_⟩
        · rw [if_neg (by simpa using h1)]
        · rw [if_pos (by simpa using h1)]
      · (simp_arith; simp -dsimp only [BK_any]; simp_arith)
        refine ⟨fun h1 => ?_, fun h1 => ?_⟩
        · refine ⟨_, _, rfl, ?_⟩
          rw [List.any_append, hd, List.any_cons, badW, h1, decide_eq_false h0]; rfl
        · rw [wordsF, if_pos (List.any_eq_true.mpr ⟨x, by rw [e]; simp, by rw [badW, h1]; simp⟩)]
  · rintro _ ⟨j1, j2, rfl, hd⟩
    simp_arith
    rw [wordsF, hd]; rfl

end Z.Y.N21
end

section
set_option Elab.async false
set_option linter.all false
set_option maxRecDepth 100000
set_option maxHeartbeats 1000000
namespace Z.Y.N21
open PySem
open Z.Y0 (eV eA eT eI eW eD eG eAs eDs eSp eTs eAnd eOr eCs eArg eIfs xSs xS lcR forR eGs eVs eGo isMk isTs isV isStar negD zipD enuD rvsD)
local macro_rules | `(tactic| simp_arith) => `(tactic| simp -dsimp only [Nat.reduceAdd, Nat.reduceSub, Nat.reduceLT, Nat.reduceLeDiff, Nat.reduceEqDiff, Nat.reduceBEq, Int.reduceEq, Int.reduceLT, Int.reduceLE, Int.reduceAdd, Int.reduceSub, Int.reduceMul, Int.reduceNeg, String.reduceEq, String.reduceBEq, ↓reduceIte, ↓W_ok, ↓W_ex, ↓W_st, W_ite, ↓FW_ok, ↓FW_ex, ↓FW_st, FW_ite, OK_some, OK_none, OK_itn, OK_map, OK_bind, BK_t, BK_f, BK_dec, BK_not, gK_frz, gK_lst, gK_dct, aK_val, aK_plc, vK_frz, vK_lst, vK_dct, pK_frz, pK_lst, pK_dct, pK_ins, pK_exc, KS_nx, KS_rt, KS_bk, KS_ct, KL_nx, KL_ct, KL_bk, KL_rt, ↓W_bind, ↓W_pure, ↓W_stuck, ↓W_opt, ↓W_iteM, ↓W_const, ↓dOf_W, ↓aOf_W, ↓tOf_W, ↓itOf_W, ↓one_W, ↓two_W, ↓many_W, ↓blM_W, ↓eA_mk, ↓eT_mk, ↓eW_mk, ↓eI_mk, ↓eA_ts, ↓eW_ts, ↓eD_W, frzO_frz, frzO_lst, frzO_dct, frzO_ins, frzO_exc, ↓eV_var, ↓eA_var, ↓eW_var, ↓eT_var, ↓eI_var, ↓eV_non, ↓eV_bl, ↓eV_int, ↓eV_str, ↓eV_glb, ↓eV_bin, ↓eV_neg, ↓eT_nt, ↓eV_nt, ↓eV_band, ↓eV_bor, ↓eT_band, ↓eT_bor, ↓eAnd_one, ↓eAnd_cons, ↓eOr_one, ↓eOr_cons, ↓eTs_nil, ↓eTs_and, ↓eTs_or, ↓eT_cmp, ↓eV_cmp, ↓eT_chn, ↓eV_chn, ↓eV_ife, ↓eAs_nil, ↓eAs_cons, ↓eDs_nil, ↓eDs_cons, ↓eSp_nil, ↓eSp_cons, ↓eSp_star, ↓eCs_nil, ↓eCs_cons, ↓eCs_nof, ↓eArg_lent, qK_frz, qK_lst, qK_dct, qK_exc, ↓eArg_var, ↓eArg_oth, gets_nil, gets_cons, ↓doCall_W, ↓eV_call, ↓eV_calle, getOs_nil, getOs_cons, getO_val, getO_plc, ↓eV_bi1, ↓eV_bi2, ↓eV_bi0, ↓eV_isi, ↓eI_range, ↓eI_zip, ↓eI_enum, ↓eI_rev, ↓eV_plain, mK_lst, ↓eV_mut, ↓eV_sub, oK_none, intK_int, oK_some, ↓eV_slc, ↓eV_rev, ↓eV_lst, ↓eV_tup, ↓eG_var, ↓eGs_nil, ↓eGs_cons, tK_tup, ↓eG_tup, ↓eG_sub, ↓xSs_nil, ↓xSs_cons, ↓xS_asg, ↓eVs_nil, ↓eVs_cons, ↓eGo_nil, ↓eGo_cons, ↓xS_asg2, ↓xS_retv, ↓xS_ret, ↓xS_retn, ↓xS_ifs, ↓xS_for, ↓forR_nil, ↓xS_brk, ↓xS_cnt, ↓xS_pas, ↓xS_expr, ↓xS_rais, ↓xS_try, ↓eIfs_nil, ↓eIfs_cons, ↓eV_lc, ↓lcR_nil, ofString_eq, ofString_beq, ↓isWalk_len, ↓isIsi_len, ↓isWalk_int, ↓isIsi_int, ↓isWalk_abs, ↓isIsi_abs, ↓isWalk_all, ↓isIsi_all, ↓isWalk_any, ↓isIsi_any, ↓isWalk_sum, ↓isIsi_sum, ↓isWalk_tuple, ↓isIsi_tuple, ↓isWalk_list, ↓isIsi_list, ↓isWalk_sorted, ↓isIsi_sorted, ↓isWalk_min, ↓isIsi_min, ↓isWalk_max, ↓isIsi_max, ↓isWalk_repr, ↓isIsi_repr, ↓isWalk_str, ↓isIsi_str, ↓isWalk_dict, ↓isIsi_dict, ↓isWalk_isinstance, ↓isIsi_isinstance, ↓biD_len, ↓biD_int, ↓biD_abs, ↓biD_all, ↓biD_any, ↓biD_sum, ↓biD_tuple, ↓biD_list, ↓biD_sorted, ↓biD_min, ↓biD_max, ↓biD_repr, ↓biD_str, ↓biD_dict, ↓isIv_index, ↓isMut_index, ↓isIv_count, ↓isMut_count, ↓isIv_get, ↓isMut_get, ↓isIv_join, ↓isMut_join, ↓isIv_split, ↓isMut_split, ↓isIv_startswith, ↓isMut_startswith, ↓isIv_endswith, ↓isMut_endswith, ↓isIv_append, ↓isMut_append, ↓isIv_extend, ↓isMut_extend, ↓isIv_reverse, ↓isMut_reverse, ↓isIv_pop, ↓isMut_pop, ↓isIv_insert, ↓isMut_insert, ↓isPl_index, ↓methD_index, ↓kindM_index_lst, ↓kindM_index_str, ↓isPl_count, ↓methD_count, ↓kindM_count_lst, ↓kindM_count_str, ↓isPl_get, ↓methD_get, ↓kindM_get_lst, ↓kindM_get_str, ↓isPl_join, ↓methD_join, ↓kindM_join_lst, ↓kindM_join_str, ↓isPl_split, ↓methD_split, ↓kindM_split_lst, ↓kindM_split_str, ↓isPl_startswith, ↓methD_startswith, ↓kindM_startswith_lst, ↓kindM_startswith_str, ↓isPl_endswith, ↓methD_endswith, ↓kindM_endswith_lst, ↓kindM_endswith_str, ↓mutD_append, ↓mutD_extend, ↓mutD_reverse, ↓mutD_pop, ↓mutD_insert, ↓bi_len_tup, ↓bi_len_lst, ↓bi_len_str, ↓bi_int_int, ↓bi_int_bl, ↓bi_int_str, ↓bi_abs_int, ↓bi_all_lst, ↓bi_any_lst, ↓bi_sum_lst, ↓bi_sum_tup, ↓bi_tuple_lst, ↓bi_tuple_tup, ↓bi_list_lst, ↓bi_list_tup, ↓bi_sorted_lst, ↓bi_sorted_tup, ↓bi_min_two, ↓bi_max_two, ↓bi_min_lst, ↓bi_max_lst, ↓bi_repr_one, ↓bi_str_int, ↓bi_str_str, ↓mt_index_lst, ↓mt_count_lst, ↓mt_join_lst, ↓mt_split_str, ↓mt_startswith_str, ↓mt_endswith_str, ↓mu_append_lst, ↓mu_extend_lst, ↓mu_reverse_lst, ↓mu_pop_lst, ↓mu_insert_lst, ↓binD_add, ↓binD_addb, ↓binD_adds, ↓binD_addt, ↓binD_addl, ↓binD_sub, ↓binD_mul, ↓binD_mull, ↓binD_fdv, ↓binD_mod, ↓binD_pow, ↓cmpD_eqs, ↓cmpD_nes, ↓cmpD_lt, ↓cmpD_lts, ↓cmpD_le, ↓cmpD_les, ↓cmpD_gt, ↓cmpD_ge, ↓cmpD_is, ↓cmpD_isn, ↓cmpD_isb, ↓cmpD_isnb, ↓cmpD_eqi, ↓cmpD_nei, ↓cmpD_in, ↓cmpD_nin, ↓subD_tup, ↓subD_lst, ↓subD_str, ↓slcD_tup, ↓slcD_lst, ↓slcD_str, ↓itemsD_tup, ↓itemsD_lst, ↓itemsD_str, ↓itemsD_scr, ↓revD_tup, ↓revD_lst, ↓negD_int, ↓tru_non, ↓tru_bl, ↓tru_int, ↓tru_str, ↓tru_tup, ↓tru_lst, ↓isNon_non, ↓isNon_bl, ↓isNon_int, ↓isNon_str, ↓isNon_tup, ↓isNon_lst, ↓isiD_non, ↓isiD_bl_int, ↓isiD_bl_bool, ↓isiD_bl_str, ↓isiD_bl_tuple, ↓isiD_bl_list, ↓isiD_bl_dict, ↓isiD_int_int, ↓isiD_int_bool, ↓isiD_int_str, ↓isiD_int_tuple, ↓isiD_int_list, ↓isiD_int_dict, ↓isiD_str_int, ↓isiD_str_bool, ↓isiD_str_str, ↓isiD_str_tuple, ↓isiD_str_list, ↓isiD_str_dict, ↓isiD_tup_int, ↓isiD_tup_bool, ↓isiD_tup_str, ↓isiD_tup_tuple, ↓isiD_tup_list, ↓isiD_tup_dict, ↓isiD_lst_int, ↓isiD_lst_bool, ↓isiD_lst_str, ↓isiD_lst_tuple, ↓isiD_lst_list, ↓isiD_lst_dict, ↓getO_zero, ↓getO_succ, ↓set_zero, ↓set_succ, ↓wipe_nil, ↓wipe_cons, ↓back_nil, ↓back_cons, ↓lb_lent, ↓lb_keep, ↓lb_val, ↓lb_nil, ↓lb_nof, ↓ol_nil, ↓ol_val, ↓ol_lent, ↓ol_exc, ↓tail_c, ↓tail_n, ↓plcs_nil, ↓plcs_val, ↓plcs_plc, ↓nodup_nil, ↓nodup_one, ↓outs_nil, ↓outs_frz, ↓outs_exc, ↓ownO_lst, ↓ownO_dct, ↓ownO_ins, ↓outs_lst, ↓outs_dct, ↓outs_ins, all_id, any_id, blsD_map, intsD_map, strsD_map, strsD_str, ↓isV_non, ↓isStar_non, ↓isMk_non, ↓isTs_non, ↓isTup2l_non, ↓isTup2r_non, ↓isV_bl, ↓isStar_bl, ↓isMk_bl, ↓isTs_bl, ↓isTup2l_bl, ↓isTup2r_bl, ↓isV_int, ↓isStar_int, ↓isMk_int, ↓isTs_int, ↓isTup2l_int, ↓isTup2r_int, ↓isV_str, ↓isStar_str, ↓isMk_str, ↓isTs_str, ↓isTup2l_str, ↓isTup2r_str, ↓isV_var, ↓isStar_var, ↓isMk_var, ↓isTs_var, ↓isTup2l_var, ↓isTup2r_var, ↓isV_glb, ↓isStar_glb, ↓isMk_glb, ↓isTs_glb, ↓isTup2l_glb, ↓isTup2r_glb, ↓isV_bin, ↓isStar_bin, ↓isMk_bin, ↓isTs_bin, ↓isTup2l_bin, ↓isTup2r_bin, ↓isV_neg, ↓isStar_neg, ↓isMk_neg, ↓isTs_neg, ↓isTup2l_neg, ↓isTup2r_neg, ↓isV_nt, ↓isStar_nt, ↓isMk_nt, ↓isTs_nt, ↓isTup2l_nt, ↓isTup2r_nt, ↓isV_band, ↓isStar_band, ↓isMk_band, ↓isTs_band, ↓isTup2l_band, ↓isTup2r_band, ↓isV_bor, ↓isStar_bor, ↓isMk_bor, ↓isTs_bor, ↓isTup2l_bor, ↓isTup2r_bor, ↓isV_cmp, ↓isStar_cmp, ↓isMk_cmp, ↓isTs_cmp, ↓isTup2l_cmp, ↓isTup2r_cmp, ↓isV_chn, ↓isStar_chn, ↓isMk_chn, ↓isTs_chn, ↓isTup2l_chn, ↓isTup2r_chn, ↓isV_chn3, ↓isStar_chn3, ↓isMk_chn3, ↓isTs_chn3, ↓isTup2l_chn3, ↓isTup2r_chn3, ↓isV_ife, ↓isStar_ife, ↓isMk_ife, ↓isTs_ife, ↓isTup2l_ife, ↓isTup2r_ife, ↓isV_call, ↓isStar_call, ↓isMk_call, ↓isTs_call, ↓isTup2l_call, ↓isTup2r_call, ↓isV_bi, ↓isStar_bi, ↓isMk_bi, ↓isTs_bi, ↓isTup2l_bi, ↓isTup2r_bi, ↓isV_calle, ↓isStar_calle, ↓isMk_calle, ↓isTs_calle, ↓isTup2l_calle, ↓isTup2r_calle, ↓isV_meth, ↓isStar_meth, ↓isMk_meth, ↓isTs_meth, ↓isTup2l_meth, ↓isTup2r_meth, ↓isV_attr, ↓isStar_attr, ↓isMk_attr, ↓isTs_attr, ↓isTup2l_attr, ↓isTup2r_attr, ↓isV_sub, ↓isStar_sub, ↓isMk_sub, ↓isTs_sub, ↓isTup2l_sub, ↓isTup2r_sub, ↓isV_slc, ↓isStar_slc, ↓isMk_slc, ↓isTs_slc, ↓isTup2l_slc, ↓isTup2r_slc, ↓isV_lst, ↓isStar_lst, ↓isMk_lst, ↓isTs_lst, ↓isTup2l_lst, ↓isTup2r_lst, ↓isV_tup, ↓isStar_tup, ↓isMk_tup, ↓isTs_tup, ↓isV_star, ↓isStar_star, ↓isMk_star, ↓isTs_star, ↓isTup2l_star, ↓isTup2r_star, ↓isV_dic, ↓isStar_dic, ↓isMk_dic, ↓isTs_dic, ↓isTup2l_dic, ↓isTup2r_dic, ↓isV_lc, ↓isStar_lc, ↓isMk_lc, ↓isTs_lc, ↓isTup2l_lc, ↓isTup2r_lc, ↓isV_lc2, ↓isStar_lc2, ↓isMk_lc2, ↓isTs_lc2, ↓isTup2l_lc2, ↓isTup2r_lc2, ↓isV_dc, ↓isStar_dc, ↓isMk_dc, ↓isTs_dc, ↓isTup2l_dc, ↓isTup2r_dc, ↓isWalk_range, ↓isWalk_zip, ↓isWalk_enumerate, ↓isWalk_reversed, ↓nd0, ↓nd1, ↓nd2, ↓nd3, ↓true_eq, ↓false_eq, ↓tf_eq, ↓ft_eq, ↓rep_zero, ↓rep_succ, not_t, not_f, band_t, band_f, and_tt, and_tr, and_fl, and_fr, imp_t, imp_f, imp_tt, n_t, n_f, dec_eq, dec_ne, bnot_eq, bnot_ne, band_eq, eq_self', mapc, mapn, appc, appn, lenc, lmap, lapp, lrange, cps_len, lenn, noExc_cons, noExc_nil, nx1_frz, nx1_lst, nx1_dct, nx1_ins, nx1_none, noExcR_nx, noExcR_frz, noExcR_lst, noExcR_dct, drs_len, drs_app, drs_snoc, drs_three, drs_rev, drs_empty, lim_eq, ↓le_is_integer, ↓ar_is_integer, ↓le_is_row, ↓ar_is_row, ↓le_are_pairs, ↓ar_are_pairs, ↓le_is_told_table, ↓ar_is_told_table, ↓le_is_told_poly, ↓ar_is_told_poly, ↓le_has_form, ↓ar_has_form, ↓le_words_of, ↓ar_words_of, ↓le_is_name, ↓ar_is_name, ↓le_number_in, ↓ar_number_in, ↓le__law_number, ↓ar__law_number, ↓le__law_draws, ↓ar__law_draws, ↓le__law_next, ↓ar__law_next, ↓le__law_more, ↓ar__law_more, ↓le__law_pick, ↓ar__law_pick, ↓le__law_kind, ↓ar__law_kind, ↓le__law_line, ↓ar__law_line, ↓le__law_number_of, ↓ar__law_number_of, ↓le__law_is_row, ↓ar__law_is_row, ↓le__law_are_pairs, ↓ar__law_are_pairs, ↓le__law_due, ↓ar__law_due, ↓le__law_spoilt, ↓ar__law_spoilt, ↓le_law, ↓ar_law, ↓cls_int, ↓cls_bool, ↓cls_str, ↓cls_tuple, ↓cls_list, ↓cls_dict, ↓cls_BelowError, ↓fld_BelowError, ↓cls_NotPoly, ↓fld_NotPoly, ↓cls_NotTable, ↓fld_NotTable, ↓cls_NotPlace, ↓fld_NotPlace, ↓cls_NotPaper, ↓fld_NotPaper, ↓cls_BadNumber, ↓fld_BadNumber, ↓cls_NoAnswer, ↓fld_NoAnswer, ↓cls_TooLarge, ↓fld_TooLarge, ↓sub_BelowError_BelowError, ↓sub_BelowError_NotPoly, ↓sub_BelowError_NotTable, ↓sub_BelowError_NotPlace, ↓sub_BelowError_NotPaper, ↓sub_BelowError_BadNumber, ↓sub_BelowError_NoAnswer, ↓sub_BelowError_TooLarge, ↓sub_BelowError_ValueError, ↓sub_NotPoly_BelowError, ↓sub_NotPoly_NotPoly, ↓sub_NotPoly_NotTable, ↓sub_NotPoly_NotPlace, ↓sub_NotPoly_NotPaper, ↓sub_NotPoly_BadNumber, ↓sub_NotPoly_NoAnswer, ↓sub_NotPoly_TooLarge, ↓sub_NotPoly_ValueError, ↓sub_NotTable_BelowError, ↓sub_NotTable_NotPoly, ↓sub_NotTable_NotTable, ↓sub_NotTable_NotPlace, ↓sub_NotTable_NotPaper, ↓sub_NotTable_BadNumber, ↓sub_NotTable_NoAnswer, ↓sub_NotTable_TooLarge, ↓sub_NotTable_ValueError, ↓sub_NotPlace_BelowError, ↓sub_NotPlace_NotPoly, ↓sub_NotPlace_NotTable, ↓sub_NotPlace_NotPlace, ↓sub_NotPlace_NotPaper, ↓sub_NotPlace_BadNumber, ↓sub_NotPlace_NoAnswer, ↓sub_NotPlace_TooLarge, ↓sub_NotPlace_ValueError, ↓sub_NotPaper_BelowError, ↓sub_NotPaper_NotPoly, ↓sub_NotPaper_NotTable, ↓sub_NotPaper_NotPlace, ↓sub_NotPaper_NotPaper, ↓sub_NotPaper_BadNumber, ↓sub_NotPaper_NoAnswer, ↓sub_NotPaper_TooLarge, ↓sub_NotPaper_ValueError, ↓sub_BadNumber_BelowError, ↓sub_BadNumber_NotPoly, ↓sub_BadNumber_NotTable, ↓sub_BadNumber_NotPlace, ↓sub_BadNumber_NotPaper, ↓sub_BadNumber_BadNumber, ↓sub_BadNumber_NoAnswer, ↓sub_BadNumber_TooLarge, ↓sub_BadNumber_ValueError, ↓sub_NoAnswer_BelowError, ↓sub_NoAnswer_NotPoly, ↓sub_NoAnswer_NotTable, ↓sub_NoAnswer_NotPlace, ↓sub_NoAnswer_NotPaper, ↓sub_NoAnswer_BadNumber, ↓sub_NoAnswer_NoAnswer, ↓sub_NoAnswer_TooLarge, ↓sub_NoAnswer_ValueError, ↓sub_TooLarge_BelowError, ↓sub_TooLarge_NotPoly, ↓sub_TooLarge_NotTable, ↓sub_TooLarge_NotPlace, ↓sub_TooLarge_NotPaper, ↓sub_TooLarge_BadNumber, ↓sub_TooLarge_NoAnswer, ↓sub_TooLarge_TooLarge, ↓sub_TooLarge_ValueError, ↓con_int, ↓con_str, ↓con_bool, ↓con_tuple, ↓con_list, ↓con_dict, ↓con_BelowError, ↓con_NotPoly, ↓con_NotTable, ↓con_NotPlace, ↓con_NotPaper, ↓con_BadNumber, ↓con_NoAnswer, ↓con_TooLarge, ↓con_is_integer, ↓con_is_row, ↓con_are_pairs, ↓con_is_told_table, ↓con_is_told_poly, ↓con_FORMS, ↓con_has_form, ↓con_SMALL, ↓con_FIGURES, ↓con_words_of, ↓con_is_name, ↓con_number_in, ↓con__law_number, ↓con__law_draws, ↓con__law_next, ↓con__law_more, ↓con__law_pick, ↓con__law_kind, ↓con__law_line, ↓con__law_number_of, ↓con__law_is_row, ↓con__law_are_pairs, ↓con__law_due, ↓con__law_spoilt, ↓con_law, ↓call_c])
local macro_rules | `(tactic| simp_arith [$ls:simpLemma,*]) => `(tactic| simp -dsimp only [Nat.reduceAdd, Nat.reduceSub, Nat.reduceLT, Nat.reduceLeDiff, Nat.reduceEqDiff, Nat.reduceBEq, Int.reduceEq, Int.reduceLT, Int.reduceLE, Int.reduceAdd, Int.reduceSub, Int.reduceMul, Int.reduceNeg, String.reduceEq, String.reduceBEq, ↓reduceIte, ↓W_ok, ↓W_ex, ↓W_st, W_ite, ↓FW_ok, ↓FW_ex, ↓FW_st, FW_ite, OK_some, OK_none, OK_itn, OK_map, OK_bind, BK_t, BK_f, BK_dec, BK_not, gK_frz, gK_lst, gK_dct, aK_val, aK_plc, vK_frz, vK_lst, vK_dct, pK_frz, pK_lst, pK_dct, pK_ins, pK_exc, KS_nx, KS_rt, KS_bk, KS_ct, KL_nx, KL_ct, KL_bk, KL_rt, ↓W_bind, ↓W_pure, ↓W_stuck, ↓W_opt, ↓W_iteM, ↓W_const, ↓dOf_W, ↓aOf_W, ↓tOf_W, ↓itOf_W, ↓one_W, ↓two_W, ↓many_W, ↓blM_W, ↓eA_mk, ↓eT_mk, ↓eW_mk, ↓eI_mk, ↓eA_ts, ↓eW_ts, ↓eD_W, frzO_frz, frzO_lst, frzO_dct, frzO_ins, frzO_exc, ↓eV_var, ↓eA_var, ↓eW_var, ↓eT_var, ↓eI_var, ↓eV_non, ↓eV_bl, ↓eV_int, ↓eV_str, ↓eV_glb, ↓eV_bin, ↓eV_neg, ↓eT_nt, ↓eV_nt, ↓eV_band, ↓eV_bor, ↓eT_band, ↓eT_bor, ↓eAnd_one, ↓eAnd_cons, ↓eOr_one, ↓eOr_cons, ↓eTs_nil, ↓eTs_and, ↓eTs_or, ↓eT_cmp, ↓eV_cmp, ↓eT_chn, ↓eV_chn, ↓eV_ife, ↓eAs_nil, ↓eAs_cons, ↓eDs_nil, ↓eDs_cons, ↓eSp_nil, ↓eSp_cons, ↓eSp_star, ↓eCs_nil, ↓eCs_cons, ↓eCs_nof, ↓eArg_lent, qK_frz, qK_lst, qK_dct, qK_exc, ↓eArg_var, ↓eArg_oth, gets_nil, gets_cons, ↓doCall_W, ↓eV_call, ↓eV_calle, getOs_nil, getOs_cons, getO_val, getO_plc, ↓eV_bi1, ↓eV_bi2, ↓eV_bi0, ↓eV_isi, ↓eI_range, ↓eI_zip, ↓eI_enum, ↓eI_rev, ↓eV_plain, mK_lst, ↓eV_mut, ↓eV_sub, oK_none, intK_int, oK_some, ↓eV_slc, ↓eV_rev, ↓eV_lst, ↓eV_tup, ↓eG_var, ↓eGs_nil, ↓eGs_cons, tK_tup, ↓eG_tup, ↓eG_sub, ↓xSs_nil, ↓xSs_cons, ↓xS_asg, ↓eVs_nil, ↓eVs_cons, ↓eGo_nil, ↓eGo_cons, ↓xS_asg2, ↓xS_retv, ↓xS_ret, ↓xS_retn, ↓xS_ifs, ↓xS_for, ↓forR_nil, ↓xS_brk, ↓xS_cnt, ↓xS_pas, ↓xS_expr, ↓xS_rais, ↓xS_try, ↓eIfs_nil, ↓eIfs_cons, ↓eV_lc, ↓lcR_nil, ofString_eq, ofString_beq, ↓isWalk_len, ↓isIsi_len, ↓isWalk_int, ↓isIsi_int, ↓isWalk_abs, ↓isIsi_abs, ↓isWalk_all, ↓isIsi_all, ↓isWalk_any, ↓isIsi_any, ↓isWalk_sum, ↓isIsi_sum, ↓isWalk_tuple, ↓isIsi_tuple, ↓isWalk_list, ↓isIsi_list, ↓isWalk_sorted, ↓isIsi_sorted, ↓isWalk_min, ↓isIsi_min, ↓isWalk_max, ↓isIsi_max, ↓isWalk_repr, ↓isIsi_repr, ↓isWalk_str, ↓isIsi_str, ↓isWalk_dict, ↓isIsi_dict, ↓isWalk_isinstance, ↓isIsi_isinstance, ↓biD_len, ↓biD_int, ↓biD_abs, ↓biD_all, ↓biD_any, ↓biD_sum, ↓biD_tuple, ↓biD_list, ↓biD_sorted, ↓biD_min, ↓biD_max, ↓biD_repr, ↓biD_str, ↓biD_dict, ↓isIv_index, ↓isMut_index, ↓isIv_count, ↓isMut_count, ↓isIv_get, ↓isMut_get, ↓isIv_join, ↓isMut_join, ↓isIv_split, ↓isMut_split, ↓isIv_startswith, ↓isMut_startswith, ↓isIv_endswith, ↓isMut_endswith, ↓isIv_append, ↓isMut_append, ↓isIv_extend, ↓isMut_extend, ↓isIv_reverse, ↓isMut_reverse, ↓isIv_pop, ↓isMut_pop, ↓isIv_insert, ↓isMut_insert, ↓isPl_index, ↓methD_index, ↓kindM_index_lst, ↓kindM_index_str, ↓isPl_count, ↓methD_count, ↓kindM_count_lst, ↓kindM_count_str, ↓isPl_get, ↓methD_get, ↓kindM_get_lst, ↓kindM_get_str, ↓isPl_join, ↓methD_join, ↓kindM_join_lst, ↓kindM_join_str, ↓isPl_split, ↓methD_split, ↓kindM_split_lst, ↓kindM_split_str, ↓isPl_startswith, ↓methD_startswith, ↓kindM_startswith_lst, ↓kindM_startswith_str, ↓isPl_endswith, ↓methD_endswith, ↓kindM_endswith_lst, ↓kindM_endswith_str, ↓mutD_append, ↓mutD_extend, ↓mutD_reverse, ↓mutD_pop, ↓mutD_insert, ↓bi_len_tup, ↓bi_len_lst, ↓bi_len_str, ↓bi_int_int, ↓bi_int_bl, ↓bi_int_str, ↓bi_abs_int, ↓bi_all_lst, ↓bi_any_lst, ↓bi_sum_lst, ↓bi_sum_tup, ↓bi_tuple_lst, ↓bi_tuple_tup, ↓bi_list_lst, ↓bi_list_tup, ↓bi_sorted_lst, ↓bi_sorted_tup, ↓bi_min_two, ↓bi_max_two, ↓bi_min_lst, ↓bi_max_lst, ↓bi_repr_one, ↓bi_str_int, ↓bi_str_str, ↓mt_index_lst, ↓mt_count_lst, ↓mt_join_lst, ↓mt_split_str, ↓mt_startswith_str, ↓mt_endswith_str, ↓mu_append_lst, ↓mu_extend_lst, ↓mu_reverse_lst, ↓mu_pop_lst, ↓mu_insert_lst, ↓binD_add, ↓binD_addb, ↓binD_adds, ↓binD_addt, ↓binD_addl, ↓binD_sub, ↓binD_mul, ↓binD_mull, ↓binD_fdv, ↓binD_mod, ↓binD_pow, ↓cmpD_eqs, ↓cmpD_nes, ↓cmpD_lt, ↓cmpD_lts, ↓cmpD_le, ↓cmpD_les, ↓cmpD_gt, ↓cmpD_ge, ↓cmpD_is, ↓cmpD_isn, ↓cmpD_isb, ↓cmpD_isnb, ↓cmpD_eqi, ↓cmpD_nei, ↓cmpD_in, ↓cmpD_nin, ↓subD_tup, ↓subD_lst, ↓subD_str, ↓slcD_tup, ↓slcD_lst, ↓slcD_str, ↓itemsD_tup, ↓itemsD_lst, ↓itemsD_str, ↓itemsD_scr, ↓revD_tup, ↓revD_lst, ↓negD_int, ↓tru_non, ↓tru_bl, ↓tru_int, ↓tru_str, ↓tru_tup, ↓tru_lst, ↓isNon_non, ↓isNon_bl, ↓isNon_int, ↓isNon_str, ↓isNon_tup, ↓isNon_lst, ↓isiD_non, ↓isiD_bl_int, ↓isiD_bl_bool, ↓isiD_bl_str, ↓isiD_bl_tuple, ↓isiD_bl_list, ↓isiD_bl_dict, ↓isiD_int_int, ↓isiD_int_bool, ↓isiD_int_str, ↓isiD_int_tuple, ↓isiD_int_list, ↓isiD_int_dict, ↓isiD_str_int, ↓isiD_str_bool, ↓isiD_str_str, ↓isiD_str_tuple, ↓isiD_str_list, ↓isiD_str_dict, ↓isiD_tup_int, ↓isiD_tup_bool, ↓isiD_tup_str, ↓isiD_tup_tuple, ↓isiD_tup_list, ↓isiD_tup_dict, ↓isiD_lst_int, ↓isiD_lst_bool, ↓isiD_lst_str, ↓isiD_lst_tuple, ↓isiD_lst_list, ↓isiD_lst_dict, ↓getO_zero, ↓getO_succ, ↓set_zero, ↓set_succ, ↓wipe_nil, ↓wipe_cons, ↓back_nil, ↓back_cons, ↓lb_lent, ↓lb_keep, ↓lb_val, ↓lb_nil, ↓lb_nof, ↓ol_nil, ↓ol_val, ↓ol_lent, ↓ol_exc, ↓tail_c, ↓tail_n, ↓plcs_nil, ↓plcs_val, ↓plcs_plc, ↓nodup_nil, ↓nodup_one, ↓outs_nil, ↓outs_frz, ↓outs_exc, ↓ownO_lst, ↓ownO_dct, ↓ownO_ins, ↓outs_lst, ↓outs_dct, ↓outs_ins, all_id, any_id, blsD_map, intsD_map, strsD_map, strsD_str, ↓isV_non, ↓isStar_non, ↓isMk_non, ↓isTs_non, ↓isTup2l_non, ↓isTup2r_non, ↓isV_bl, ↓isStar_bl, ↓isMk_bl, ↓isTs_bl, ↓isTup2l_bl, ↓isTup2r_bl, ↓isV_int, ↓isStar_int, ↓isMk_int, ↓isTs_int, ↓isTup2l_int, ↓isTup2r_int, ↓isV_str, ↓isStar_str, ↓isMk_str, ↓isTs_str, ↓isTup2l_str, ↓isTup2r_str, ↓isV_var, ↓isStar_var, ↓isMk_var, ↓isTs_var, ↓isTup2l_var, ↓isTup2r_var, ↓isV_glb, ↓isStar_glb, ↓isMk_glb, ↓isTs_glb, ↓isTup2l_glb, ↓isTup2r_glb, ↓isV_bin, ↓isStar_bin, ↓isMk_bin, ↓isTs_bin, ↓isTup2l_bin, ↓isTup2r_bin, ↓isV_neg, ↓isStar_neg, ↓isMk_neg, ↓isTs_neg, ↓isTup2l_neg, ↓isTup2r_neg, ↓isV_nt, ↓isStar_nt, ↓isMk_nt, ↓isTs_nt, ↓isTup2l_nt, ↓isTup2r_nt, ↓isV_band, ↓isStar_band, ↓isMk_band, ↓isTs_band, ↓isTup2l_band, ↓isTup2r_band, ↓isV_bor, ↓isStar_bor, ↓isMk_bor, ↓isTs_bor, ↓isTup2l_bor, ↓isTup2r_bor, ↓isV_cmp, ↓isStar_cmp, ↓isMk_cmp, ↓isTs_cmp, ↓isTup2l_cmp, ↓isTup2r_cmp, ↓isV_chn, ↓isStar_chn, ↓isMk_chn, ↓isTs_chn, ↓isTup2l_chn, ↓isTup2r_chn, ↓isV_chn3, ↓isStar_chn3, ↓isMk_chn3, ↓isTs_chn3, ↓isTup2l_chn3, ↓isTup2r_chn3, ↓isV_ife, ↓isStar_ife, ↓isMk_ife, ↓isTs_ife, ↓isTup2l_ife, ↓isTup2r_ife, ↓isV_call, ↓isStar_call, ↓isMk_call, ↓isTs_call, ↓isTup2l_call, ↓isTup2r_call, ↓isV_bi, ↓isStar_bi, ↓isMk_bi, ↓isTs_bi, ↓isTup2l_bi, ↓isTup2r_bi, ↓isV_calle, ↓isStar_calle, ↓isMk_calle, ↓isTs_calle, ↓isTup2l_calle, ↓isTup2r_calle, ↓isV_meth, ↓isStar_meth, ↓isMk_meth, ↓isTs_meth, ↓isTup2l_meth, ↓isTup2r_meth, ↓isV_attr, ↓isStar_attr, ↓isMk_attr, ↓isTs_attr, ↓isTup2l_attr, ↓isTup2r_attr, ↓isV_sub, ↓isStar_sub, ↓isMk_sub, ↓isTs_sub, ↓isTup2l_sub, ↓isTup2r_sub, ↓isV_slc, ↓isStar_slc, ↓isMk_slc, ↓isTs_slc, ↓isTup2l_slc, ↓isTup2r_slc, ↓isV_lst, ↓isStar_lst, ↓isMk_lst, ↓isTs_lst, ↓isTup2l_lst, ↓isTup2r_lst, ↓isV_tup, ↓isStar_tup, ↓isMk_tup, ↓isTs_tup, ↓isV_star, ↓isStar_star, ↓isMk_star, ↓isTs_star, ↓isTup2l_star, ↓isTup2r_star, ↓isV_dic, ↓isStar_dic, ↓isMk_dic, ↓isTs_dic, ↓isTup2l_dic, ↓isTup2r_dic, ↓isV_lc, ↓isStar_lc, ↓isMk_lc, ↓isTs_lc, ↓isTup2l_lc, ↓isTup2r_lc, ↓isV_lc2, ↓isStar_lc2, ↓isMk_lc2, ↓isTs_lc2, ↓isTup2l_lc2, ↓isTup2r_lc2, ↓isV_dc, ↓isStar_dc, ↓isMk_dc, ↓isTs_dc, ↓isTup2l_dc, ↓isTup2r_dc, ↓isWalk_range, ↓isWalk_zip, ↓isWalk_enumerate, ↓isWalk_reversed, ↓nd0, ↓nd1, ↓nd2, ↓nd3, ↓true_eq, ↓false_eq, ↓tf_eq, ↓ft_eq, ↓rep_zero, ↓rep_succ, not_t, not_f, band_t, band_f, and_tt, and_tr, and_fl, and_fr, imp_t, imp_f, imp_tt, n_t, n_f, dec_eq, dec_ne, bnot_eq, bnot_ne, band_eq, eq_self', mapc, mapn, appc, appn, lenc, lmap, lapp, lrange, cps_len, lenn, noExc_cons, noExc_nil, nx1_frz, nx1_lst, nx1_dct, nx1_ins, nx1_none, noExcR_nx, noExcR_frz, noExcR_lst, noExcR_dct, drs_len, drs_app, drs_snoc, drs_three, drs_rev, drs_empty, lim_eq, ↓le_is_integer, ↓ar_is_integer, ↓le_is_row, ↓ar_is_row, ↓le_are_pairs, ↓ar_are_pairs, ↓le_is_told_table, ↓ar_is_told_table, ↓le_is_told_poly, ↓ar_is_told_poly, ↓le_has_form, ↓ar_has_form, ↓le_words_of, ↓ar_words_of, ↓le_is_name, ↓ar_is_name, ↓le_number_in, ↓ar_number_in, ↓le__law_number, ↓ar__law_number, ↓le__law_draws, ↓ar__law_draws, ↓le__law_next, ↓ar__law_next, ↓le__law_more, ↓ar__law_more, ↓le__law_pick, ↓ar__law_pick, ↓le__law_kind, ↓ar__law_kind, ↓le__law_line, ↓ar__law_line, ↓le__law_number_of, ↓ar__law_number_of, ↓le__law_is_row, ↓ar__law_is_row, ↓le__law_are_pairs, ↓ar__law_are_pairs, ↓le__law_due, ↓ar__law_due, ↓le__law_spoilt, ↓ar__law_spoilt, ↓le_law, ↓ar_law, ↓cls_int, ↓cls_bool, ↓cls_str, ↓cls_tuple, ↓cls_list, ↓cls_dict, ↓cls_BelowError, ↓fld_BelowError, ↓cls_NotPoly, ↓fld_NotPoly, ↓cls_NotTable, ↓fld_NotTable, ↓cls_NotPlace, ↓fld_NotPlace, ↓cls_NotPaper, ↓fld_NotPaper, ↓cls_BadNumber, ↓fld_BadNumber, ↓cls_NoAnswer, ↓fld_NoAnswer, ↓cls_TooLarge, ↓fld_TooLarge, ↓sub_BelowError_BelowError, ↓sub_BelowError_NotPoly, ↓sub_BelowError_NotTable, ↓sub_BelowError_NotPlace, ↓sub_BelowError_NotPaper, ↓sub_BelowError_BadNumber, ↓sub_BelowError_NoAnswer, ↓sub_BelowError_TooLarge, ↓sub_BelowError_ValueError, ↓sub_NotPoly_BelowError, ↓sub_NotPoly_NotPoly, ↓sub_NotPoly_NotTable, ↓sub_NotPoly_NotPlace, ↓sub_NotPoly_NotPaper, ↓sub_NotPoly_BadNumber, ↓sub_NotPoly_NoAnswer, ↓sub_NotPoly_TooLarge, ↓sub_NotPoly_ValueError, ↓sub_NotTable_BelowError, ↓sub_NotTable_NotPoly, ↓sub_NotTable_NotTable, ↓sub_NotTable_NotPlace, ↓sub_NotTable_NotPaper, ↓sub_NotTable_BadNumber, ↓sub_NotTable_NoAnswer, ↓sub_NotTable_TooLarge, ↓sub_NotTable_ValueError, ↓sub_NotPlace_BelowError, ↓sub_NotPlace_NotPoly, ↓sub_NotPlace_NotTable, ↓sub_NotPlace_NotPlace, ↓sub_NotPlace_NotPaper, ↓sub_NotPlace_BadNumber, ↓sub_NotPlace_NoAnswer, ↓sub_NotPlace_TooLarge, ↓sub_NotPlace_ValueError, ↓sub_NotPaper_BelowError, ↓sub_NotPaper_NotPoly, ↓sub_NotPaper_NotTable, ↓sub_NotPaper_NotPlace, ↓sub_NotPaper_NotPaper, ↓sub_NotPaper_BadNumber, ↓sub_NotPaper_NoAnswer, ↓sub_NotPaper_TooLarge, ↓sub_NotPaper_ValueError, ↓sub_BadNumber_BelowError, ↓sub_BadNumber_NotPoly, ↓sub_BadNumber_NotTable, ↓sub_BadNumber_NotPlace, ↓sub_BadNumber_NotPaper, ↓sub_BadNumber_BadNumber, ↓sub_BadNumber_NoAnswer, ↓sub_BadNumber_TooLarge, ↓sub_BadNumber_ValueError, ↓sub_NoAnswer_BelowError, ↓sub_NoAnswer_NotPoly, ↓sub_NoAnswer_NotTable, ↓sub_NoAnswer_NotPlace, ↓sub_NoAnswer_NotPaper, ↓sub_NoAnswer_BadNumber, ↓sub_NoAnswer_NoAnswer, ↓sub_NoAnswer_TooLarge, ↓sub_NoAnswer_ValueError, ↓sub_TooLarge_BelowError, ↓sub_TooLarge_NotPoly, ↓sub_TooLarge_NotTable, ↓sub_TooLarge_NotPlace, ↓sub_TooLarge_NotPaper, ↓sub_TooLarge_BadNumber, ↓sub_TooLarge_NoAnswer, ↓sub_TooLarge_TooLarge, ↓sub_TooLarge_ValueError, ↓con_int, ↓con_str, ↓con_bool, ↓con_tuple, ↓con_list, ↓con_dict, ↓con_BelowError, ↓con_NotPoly, ↓con_NotTable, ↓con_NotPlace, ↓con_NotPaper, ↓con_BadNumber, ↓con_NoAnswer, ↓con_TooLarge, ↓con_is_integer, ↓con_is_row, ↓con_are_pairs, ↓con_is_told_table, ↓con_is_told_poly, ↓con_FORMS, ↓con_has_form, ↓con_SMALL, ↓con_FIGURES, ↓con_words_of, ↓con_is_name, ↓con_number_in, ↓con__law_number, ↓con__law_draws, ↓con__law_next, ↓con__law_more, ↓con__law_pick, ↓con__law_kind, ↓con__law_line, ↓con__law_number_of, ↓con__law_is_row, ↓con__law_are_pairs, ↓con__law_due, ↓con__law_spoilt, ↓con_law, ↓call_c, $ls,*])
/-! words -/
def hasS (z y : Str) : Bool := !(Builtin.Str.occurrences z y 0 z.length 1).isEmpty
theorem inD_str (z y : Str) : inD (.str y) (.str z) = some (hasS z y) := rfl
def smallF (w : Str) : Bool := if 1 ≤ w.length ∧ w.length ≤ 12 then w.cps.toList.all (fun c => hasS "abcdefghijklmnopqrstuvwxyz" ⟨#[c]⟩) else false
theorem is_name (n : Nat) (hn : 0 < n) (w : Str) (hw : w.length ≤ 100) : P.call n "is_name" [.frz (.str w)] = .ok (.frz (.bl (smallF w))) [.frz (.str w)] := by
  refine FW_eq (call_W (by omega) lk_is_name rfl fun m _ => ?_)
  simp only [P_k21.f_is_name]
  simp_arith
  refine ⟨fun h1 => ⟨fun h2 => ⟨by omega, lcM1 _ _ (fun c => .bl (hasS "abcdefghijklmnopqrstuvwxyz" ⟨#[c]⟩)) (fun c hc => ?_) ?_⟩, fun h2 => ?_⟩, fun h1 => ?_⟩
  · simp_arith [inD_str]
  · simp_arith
    rw [smallF, if_pos ⟨by omega, by omega⟩]
  · rw [smallF, if_neg (by omega), decide_eq_false h2]
  · rw [smallF, if_neg (by omega)]
def numV : List Nat → D
  | [a] => if 48 ≤ a ∧ a ≤ 57 then .int ((a : Int) - 48) else .non
  | [a, b] => if 49 ≤ a ∧ a ≤ 57 ∧ 48 ≤ b ∧ b ≤ 57 then .int (((a : Int) - 48) * 10 + ((b : Int) - 48)) else .non
  | _ => .non
def alph : List Nat := [97, 107, 122, 57, 48, 49, 66]
theorem num_short (m : Nat) : ∀ l : List Nat, (∀ c ∈ l, c ∈ alph) → l.length ≤ 2 → P.call (m + 1) "number_in" [.frz (.str ⟨l.toArray⟩)] = .ok (.frz (numV l)) [.frz (.str ⟨l.toArray⟩)]
  | [], _, _ => by kernel_rfl
  | [a], h, _ => by
    have ha := h a (by simp)
    simp only [alph, List.mem_cons, List.not_mem_nil, or_false] at ha
    rcases ha with rfl | rfl | rfl | rfl | rfl | rfl | rfl <;> kernel_rfl
  | [a, b], h, _ => by
    have ha := h a (by simp)
    have hb := h b (by simp)
    simp only [alph, List.mem_cons, List.not_mem_nil, or_false] at ha hb
    rcases ha with rfl | rfl | rfl | rfl | rfl | rfl | rfl <;> rcases hb with rfl | rfl | rfl | rfl | rfl | rfl | rfl <;> kernel_rfl
  | _ :: _ :: _ :: _, _, h => by simp at h
theorem num_short2 (m : Nat) : ∀ l : List Nat, (∀ c ∈ l, c ∈ alph) → l.length ≤ 2 → P.call (m + 1) "_law_number_of" [.frz (.str ⟨l.toArray⟩)] = .ok (.frz (numV l)) [.frz (.str ⟨l.toArray⟩)]
  | [], _, _ => by kernel_rfl
  | [a], h, _ => by
    have ha := h a (by simp)
    simp only [alph, List.mem_cons, List.not_mem_nil, or_false] at ha
    rcases ha with rfl | rfl | rfl | rfl | rfl | rfl | rfl <;> kernel_rfl
  | [a, b], h, _ => by
    have ha := h a (by simp)
    have hb := h b (by simp)
    simp only [alph, List.mem_cons, List.not_mem_nil, or_false] at ha hb
    rcases ha with rfl | rfl | rfl | rfl | rfl | rfl | rfl <;> rcases hb with rfl | rfl | rfl | rfl | rfl | rfl | rfl <;> kernel_rfl
  | _ :: _ :: _ :: _, _, h => by simp at h
theorem number_in (n : Nat) (hn : 0 < n) (w : Str) (hw : ∀ c ∈ w.cps.toList, c ∈ alph) : P.call n "number_in" [.frz (.str w)] = .ok (.frz (numV w.cps.toList)) [.frz (.str w)] := by
  by_cases h : w.length ≤ 2
  · obtain ⟨m, rfl⟩ : ∃ m, n = m + 1 := ⟨n - 1, by omega⟩
    exact num_short m w.cps.toList hw h
  · refine FW_eq (call_W (by omega) lk_number_in rfl fun m _ => ?_)
    simp only [P_k21.f_number_in]
    simp_arith
    have e : numV w.cps.toList = .non := by
      have hl : w.cps.toList.length = w.length := rfl
      match hq : w.cps.toList with
      | [] => rfl
      | [a] => rw [hq] at hl; simp at hl; omega
      | [a, b] => rw [hq] at hl; simp at hl; omega
      | _ :: _ :: _ :: _ => rfl
    rw [e]
    exact ⟨fun _ => ⟨fun h2 => absurd h2 (by omega), fun _ => rfl⟩, fun _ => rfl⟩
theorem strs100 : ∀ k < 100, (Str.ofString (toString ((k : Nat) : Int))).length ≤ 2 ∧ eqOk (.str (Str.ofString (toString ((k : Nat) : Int)))) = true := by decide +kernel
theorem alph_ok {w : Str} (hw : ∀ c ∈ w.cps.toList, c ∈ alph) : w.cps.all (· < 0x110000) = true := by
  rw [Array.all_eq_true_iff_forall_mem]
  intro c hc
  have := hw c (Array.mem_toList_iff.mpr hc)
  simp only [alph, List.mem_cons, List.not_mem_nil, or_false] at this
  rcases this with rfl | rfl | rfl | rfl | rfl | rfl | rfl <;> rfl
theorem number_of (n : Nat) (hn : 0 < n) (w : Str) (hw : ∀ c ∈ w.cps.toList, c ∈ alph) : P.call n "_law_number_of" [.frz (.str w)] = .ok (.frz (numV w.cps.toList)) [.frz (.str w)] := by
  by_cases h : w.length ≤ 2
  · obtain ⟨m, rfl⟩ : ∃ m, n = m + 1 := ⟨n - 1, by omega⟩
    exact num_short2 m w.cps.toList hw h
  · refine FW_eq (call_W (by omega) lk__law_number_of rfl fun m _ => ?_)
    simp only [P_k21.f__law_number_of]
    have e : numV w.cps.toList = .non := by
      have hl : w.cps.toList.length = w.length := rfl
      match hq : w.cps.toList with
      | [] => rfl
      | [a] => rw [hq] at hl; simp at hl; omega
      | [a, b] => rw [hq] at hl; simp at hl; omega
      | _ :: _ :: _ :: _ => rfl
    rw [e]
    simp_arith [rng1 (show -(2 ^ 60) ≤ (100 : Int) by omega) (show (100 : Int) < 2 ^ 60 by omega)]
    refine ⟨by decide, lcM1 _ _ (fun k => .str (Str.ofString (toString ((k : Nat) : Int)))) (fun k hk => ?_) ?_⟩
    · rw [List.mem_range] at hk
      have hl : ((k : Nat) : Int).natAbs.log2 < 1900 := by
        have := log2_lt (n := ((k : Nat) : Int).natAbs) (k := 7) (by omega)
        omega
      simp_arith [hl]
    · have h1 : inD (.str w) (.lst ((List.range (Int.toNat 100)).map fun k => .str (Str.ofString (toString ((k : Nat) : Int))))) = some false := by
        show (if _ then _ else _) = _
        rw [if_pos]
        · refine congrArg some (List.any_eq_false.mpr fun d hd => ?_)
          rw [List.mem_map] at hd
          obtain ⟨k, hk, rfl⟩ := hd
          rw [List.mem_range] at hk
          have := (strs100 k hk).1
          simp only [D.eqv]
          intro h2
          rw [eq_of_beq h2] at this
          exact h this
        · rw [eqOk_str (alph_ok hw), Bool.true_and, List.all_map, List.all_eq_true]
          intro k hk
          rw [List.mem_range] at hk
          exact (strs100 k hk).2
      simp_arith [h1]
end Z.Y.N21
end

section
set_option Elab.async false
set_option linter.all false
set_option maxRecDepth 100000
set_option maxHeartbeats 1000000
namespace Z.Y.N21
open PySem
open Z.Y0 (eV eA eT eI eW eD eG eAs eDs eSp eTs eAnd eOr eCs eArg eIfs xSs xS lcR forR eGs eVs eGo isMk isTs isV isStar negD zipD enuD rvsD)
local macro_rules | `(tactic| simp_arith) => `(tactic| simp -dsimp only [Nat.reduceAdd, Nat.reduceSub, Nat.reduceLT, Nat.reduceLeDiff, Nat.reduceEqDiff, Nat.reduceBEq, Int.reduceEq, Int.reduceLT, Int.reduceLE, Int.reduceAdd, Int.reduceSub, Int.reduceMul, Int.reduceNeg, String.reduceEq, String.reduceBEq, ↓reduceIte, ↓W_ok, ↓W_ex, ↓W_st, W_ite, ↓FW_ok, ↓FW_ex, ↓FW_st, FW_ite, OK_some, OK_none, OK_itn, OK_map, OK_bind, BK_t, BK_f, BK_dec, BK_not, gK_frz, gK_lst, gK_dct, aK_val, aK_plc, vK_frz, vK_lst, vK_dct, pK_frz, pK_lst, pK_dct, pK_ins, pK_exc, KS_nx, KS_rt, KS_bk, KS_ct, KL_nx, KL_ct, KL_bk, KL_rt, ↓W_bind, ↓W_pure, ↓W_stuck, ↓W_opt, ↓W_iteM, ↓W_const, ↓dOf_W, ↓aOf_W, ↓tOf_W, ↓itOf_W, ↓one_W, ↓two_W, ↓many_W, ↓blM_W, ↓eA_mk, ↓eT_mk, ↓eW_mk, ↓eI_mk, ↓eA_ts, ↓eW_ts, ↓eD_W, frzO_frz, frzO_lst, frzO_dct, frzO_ins, frzO_exc, ↓eV_var, ↓eA_var, ↓eW_var, ↓eT_var, ↓eI_var, ↓eV_non, ↓eV_bl, ↓eV_int, ↓eV_str, ↓eV_glb, ↓eV_bin, ↓eV_neg, ↓eT_nt, ↓eV_nt, ↓eV_band, ↓eV_bor, ↓eT_band, ↓eT_bor, ↓eAnd_one, ↓eAnd_cons, ↓eOr_one, ↓eOr_cons, ↓eTs_nil, ↓eTs_and, ↓eTs_or, ↓eT_cmp, ↓eV_cmp, ↓eT_chn, ↓eV_chn, ↓eV_ife, ↓eAs_nil, ↓eAs_cons, ↓eDs_nil, ↓eDs_cons, ↓eSp_nil, ↓eSp_cons, ↓eSp_star, ↓eCs_nil, ↓eCs_cons, ↓eCs_nof, ↓eArg_lent, qK_frz, qK_lst, qK_dct, qK_exc, ↓eArg_var, ↓eArg_oth, gets_nil, gets_cons, ↓doCall_W, ↓eV_call, ↓eV_calle, getOs_nil, getOs_cons, getO_val, getO_plc, ↓eV_bi1, ↓eV_bi2, ↓eV_bi0, ↓eV_isi, ↓eI_range, ↓eI_zip, ↓eI_enum, ↓eI_rev, ↓eV_plain, mK_lst, ↓eV_mut, ↓eV_sub, oK_none, intK_int, oK_some, ↓eV_slc, ↓eV_rev, ↓eV_lst, ↓eV_tup, ↓eG_var, ↓eGs_nil, ↓eGs_cons, tK_tup, ↓eG_tup, ↓eG_sub, ↓xSs_nil, ↓xSs_cons, ↓xS_asg, ↓eVs_nil, ↓eVs_cons, ↓eGo_nil, ↓eGo_cons, ↓xS_asg2, ↓xS_retv, ↓xS_ret, ↓xS_retn, ↓xS_ifs, ↓xS_for, ↓forR_nil, ↓xS_brk, ↓xS_cnt, ↓xS_pas, ↓xS_expr, ↓xS_rais, ↓xS_try, ↓eIfs_nil, ↓eIfs_cons, ↓eV_lc, ↓lcR_nil, ofString_eq, ofString_beq, ↓isWalk_len, ↓isIsi_len, ↓isWalk_int, ↓isIsi_int, ↓isWalk_abs, ↓isIsi_abs, ↓isWalk_all, ↓isIsi_all, ↓isWalk_any, ↓isIsi_any, ↓isWalk_sum, ↓isIsi_sum, ↓isWalk_tuple, ↓isIsi_tuple, ↓isWalk_list, ↓isIsi_list, ↓isWalk_sorted, ↓isIsi_sorted, ↓isWalk_min, ↓isIsi_min, ↓isWalk_max, ↓isIsi_max, ↓isWalk_repr, ↓isIsi_repr, ↓isWalk_str, ↓isIsi_str, ↓isWalk_dict, ↓isIsi_dict, ↓isWalk_isinstance, ↓isIsi_isinstance, ↓biD_len, ↓biD_int, ↓biD_abs, ↓biD_all, ↓biD_any, ↓biD_sum, ↓biD_tuple, ↓biD_list, ↓biD_sorted, ↓biD_min, ↓biD_max, ↓biD_repr, ↓biD_str, ↓biD_dict, ↓isIv_index, ↓isMut_index, ↓isIv_count, ↓isMut_count, ↓isIv_get, ↓isMut_get, ↓isIv_join, ↓isMut_join, ↓isIv_split, ↓isMut_split, ↓isIv_startswith, ↓isMut_startswith, ↓isIv_endswith, ↓isMut_endswith, ↓isIv_append, ↓isMut_append, ↓isIv_extend, ↓isMut_extend, ↓isIv_reverse, ↓isMut_reverse, ↓isIv_pop, ↓isMut_pop, ↓isIv_insert, ↓isMut_insert, ↓isPl_index, ↓methD_index, ↓kindM_index_lst, ↓kindM_index_str, ↓isPl_count, ↓methD_count, ↓kindM_count_lst, ↓kindM_count_str, ↓isPl_get, ↓methD_get, ↓kindM_get_lst, ↓kindM_get_str, ↓isPl_join, ↓methD_join, ↓kindM_join_lst, ↓kindM_join_str, ↓isPl_split, ↓methD_split, ↓kindM_split_lst, ↓kindM_split_str, ↓isPl_startswith, ↓methD_startswith, ↓kindM_startswith_lst, ↓kindM_startswith_str, ↓isPl_endswith, ↓methD_endswith, ↓kindM_endswith_lst, ↓kindM_endswith_str, ↓mutD_append, ↓mutD_extend, ↓mutD_reverse, ↓mutD_pop, ↓mutD_insert, ↓bi_len_tup, ↓bi_len_lst, ↓bi_len_str, ↓bi_int_int, ↓bi_int_bl, ↓bi_int_str, ↓bi_abs_int, ↓bi_all_lst, ↓bi_any_lst, ↓bi_sum_lst, ↓bi_sum_tup, ↓bi_tuple_lst, ↓bi_tuple_tup, ↓bi_list_lst, ↓bi_list_tup, ↓bi_sorted_lst, ↓bi_sorted_tup, ↓bi_min_two, ↓bi_max_two, ↓bi_min_lst, ↓bi_max_lst, ↓bi_repr_one, ↓bi_str_int, ↓bi_str_str, ↓mt_index_lst, ↓mt_count_lst, ↓mt_join_lst, ↓mt_split_str, ↓mt_startswith_str, ↓mt_endswith_str, ↓mu_append_lst, ↓mu_extend_lst, ↓mu_reverse_lst, ↓mu_pop_lst, ↓mu_insert_lst, ↓binD_add, ↓binD_addb, ↓binD_adds, ↓binD_addt, ↓binD_addl, ↓binD_sub, ↓binD_mul, ↓binD_mull, ↓binD_fdv, ↓binD_mod, ↓binD_pow, ↓cmpD_eqs, ↓cmpD_nes, ↓cmpD_lt, ↓cmpD_lts, ↓cmpD_le, ↓cmpD_les, ↓cmpD_gt, ↓cmpD_ge, ↓cmpD_is, ↓cmpD_isn, ↓cmpD_isb, ↓cmpD_isnb, ↓cmpD_eqi, ↓cmpD_nei, ↓cmpD_in, ↓cmpD_nin, ↓subD_tup, ↓subD_lst, ↓subD_str, ↓slcD_tup, ↓slcD_lst, ↓slcD_str, ↓itemsD_tup, ↓itemsD_lst, ↓itemsD_str, ↓itemsD_scr, ↓revD_tup, ↓revD_lst, ↓negD_int, ↓tru_non, ↓tru_bl, ↓tru_int, ↓tru_str, ↓tru_tup, ↓tru_lst, ↓isNon_non, ↓isNon_bl, ↓isNon_int, ↓isNon_str, ↓isNon_tup, ↓isNon_lst, ↓isiD_non, ↓isiD_bl_int, ↓isiD_bl_bool, ↓isiD_bl_str, ↓isiD_bl_tuple, ↓isiD_bl_list, ↓isiD_bl_dict, ↓isiD_int_int, ↓isiD_int_bool, ↓isiD_int_str, ↓isiD_int_tuple, ↓isiD_int_list, ↓isiD_int_dict, ↓isiD_str_int, ↓isiD_str_bool, ↓isiD_str_str, ↓isiD_str_tuple, ↓isiD_str_list, ↓isiD_str_dict, ↓isiD_tup_int, ↓isiD_tup_bool, ↓isiD_tup_str, ↓isiD_tup_tuple, ↓isiD_tup_list, ↓isiD_tup_dict, ↓isiD_lst_int, ↓isiD_lst_bool, ↓isiD_lst_str, ↓isiD_lst_tuple, ↓isiD_lst_list, ↓isiD_lst_dict, ↓getO_zero, ↓getO_succ, ↓set_zero, ↓set_succ, ↓wipe_nil, ↓wipe_cons, ↓back_nil, ↓back_cons, ↓lb_lent, ↓lb_keep, ↓lb_val, ↓lb_nil, ↓lb_nof, ↓ol_nil, ↓ol_val, ↓ol_lent, ↓ol_exc, ↓tail_c, ↓tail_n, ↓plcs_nil, ↓plcs_val, ↓plcs_plc, ↓nodup_nil, ↓nodup_one, ↓outs_nil, ↓outs_frz, ↓outs_exc, ↓ownO_lst, ↓ownO_dct, ↓ownO_ins, ↓outs_lst, ↓outs_dct, ↓outs_ins, all_id, any_id, blsD_map, intsD_map, strsD_map, strsD_str, ↓isV_non, ↓isStar_non, ↓isMk_non, ↓isTs_non, ↓isTup2l_non, ↓isTup2r_non, ↓isV_bl, ↓isStar_bl, ↓isMk_bl, ↓isTs_bl, ↓isTup2l_bl, ↓isTup2r_bl, ↓isV_int, ↓isStar_int, ↓isMk_int, ↓isTs_int, ↓isTup2l_int, ↓isTup2r_int, ↓isV_str, ↓isStar_str, ↓isMk_str, ↓isTs_str, ↓isTup2l_str, ↓isTup2r_str, ↓isV_var, ↓isStar_var, ↓isMk_var, ↓isTs_var, ↓isTup2l_var, ↓isTup2r_var, ↓isV_glb, ↓isStar_glb, ↓isMk_glb, ↓isTs_glb, ↓isTup2l_glb, ↓isTup2r_glb, ↓isV_bin, ↓isStar_bin, ↓isMk_bin, ↓isTs_bin, ↓isTup2l_bin, ↓isTup2r_bin, ↓isV_neg, ↓isStar_neg, ↓isMk_neg, ↓isTs_neg, ↓isTup2l_neg, ↓isTup2r_neg, ↓isV_nt, ↓isStar_nt, ↓isMk_nt, ↓isTs_nt, ↓isTup2l_nt, ↓isTup2r_nt, ↓isV_band, ↓isStar_band, ↓isMk_band, ↓isTs_band, ↓isTup2l_band, ↓isTup2r_band, ↓isV_bor, ↓isStar_bor, ↓isMk_bor, ↓isTs_bor, ↓isTup2l_bor, ↓isTup2r_bor, ↓isV_cmp, ↓isStar_cmp, ↓isMk_cmp, ↓isTs_cmp, ↓isTup2l_cmp, ↓isTup2r_cmp, ↓isV_chn, ↓isStar_chn, ↓isMk_chn, ↓isTs_chn, ↓isTup2l_chn, ↓isTup2r_chn, ↓isV_chn3, ↓isStar_chn3, ↓isMk_chn3, ↓isTs_chn3, ↓isTup2l_chn3, ↓isTup2r_chn3, ↓isV_ife, ↓isStar_ife, ↓isMk_ife, ↓isTs_ife, ↓isTup2l_ife, ↓isTup2r_ife, ↓isV_call, ↓isStar_call, ↓isMk_call, ↓isTs_call, ↓isTup2l_call, ↓isTup2r_call, ↓isV_bi, ↓isStar_bi, ↓isMk_bi, ↓isTs_bi, ↓isTup2l_bi, ↓isTup2r_bi, ↓isV_calle, ↓isStar_calle, ↓isMk_calle, ↓isTs_calle, ↓isTup2l_calle, ↓isTup2r_calle, ↓isV_meth, ↓isStar_meth, ↓isMk_meth, ↓isTs_meth, ↓isTup2l_meth, ↓isTup2r_meth, ↓isV_attr, ↓isStar_attr, ↓isMk_attr, ↓isTs_attr, ↓isTup2l_attr, ↓isTup2r_attr, ↓isV_sub, ↓isStar_sub, ↓isMk_sub, ↓isTs_sub, ↓isTup2l_sub, ↓isTup2r_sub, ↓isV_slc, ↓isStar_slc, ↓isMk_slc, ↓isTs_slc, ↓isTup2l_slc, ↓isTup2r_slc, ↓isV_lst, ↓isStar_lst, ↓isMk_lst, ↓isTs_lst, ↓isTup2l_lst, ↓isTup2r_lst, ↓isV_tup, ↓isStar_tup, ↓isMk_tup, ↓isTs_tup, ↓isV_star, ↓isStar_star, ↓isMk_star, ↓isTs_star, ↓isTup2l_star, ↓isTup2r_star, ↓isV_dic, ↓isStar_dic, ↓isMk_dic, ↓isTs_dic, ↓isTup2l_dic, ↓isTup2r_dic, ↓isV_lc, ↓isStar_lc, ↓isMk_lc, ↓isTs_lc, ↓isTup2l_lc, ↓isTup2r_lc, ↓isV_lc2, ↓isStar_lc2, ↓isMk_lc2, ↓isTs_lc2, ↓isTup2l_lc2, ↓isTup2r_lc2, ↓isV_dc, ↓isStar_dc, ↓isMk_dc, ↓isTs_dc, ↓isTup2l_dc, ↓isTup2r_dc, ↓isWalk_range, ↓isWalk_zip, ↓isWalk_enumerate, ↓isWalk_reversed, ↓nd0, ↓nd1, ↓nd2, ↓nd3, ↓true_eq, ↓false_eq, ↓tf_eq, ↓ft_eq, ↓rep_zero, ↓rep_succ, not_t, not_f, band_t, band_f, and_tt, and_tr, and_fl, and_fr, imp_t, imp_f, imp_tt, n_t, n_f, dec_eq, dec_ne, bnot_eq, bnot_ne, band_eq, eq_self', mapc, mapn, appc, appn, lenc, lmap, lapp, lrange, cps_len, lenn, noExc_cons, noExc_nil, nx1_frz, nx1_lst, nx1_dct, nx1_ins, nx1_none, noExcR_nx, noExcR_frz, noExcR_lst, noExcR_dct, drs_len, drs_app, drs_snoc, drs_three, drs_rev, drs_empty, lim_eq, ↓le_is_integer, ↓ar_is_integer, ↓le_is_row, ↓ar_is_row, ↓le_are_pairs, ↓ar_are_pairs, ↓le_is_told_table, ↓ar_is_told_table, ↓le_is_told_poly, ↓ar_is_told_poly, ↓le_has_form, ↓ar_has_form, ↓le_words_of, ↓ar_words_of, ↓le_is_name, ↓ar_is_name, ↓le_number_in, ↓ar_number_in, ↓le__law_number, ↓ar__law_number, ↓le__law_draws, ↓ar__law_draws, ↓le__law_next, ↓ar__law_next, ↓le__law_more, ↓ar__law_more, ↓le__law_pick, ↓ar__law_pick, ↓le__law_kind, ↓ar__law_kind, ↓le__law_line, ↓ar__law_line, ↓le__law_number_of, ↓ar__law_number_of, ↓le__law_is_row, ↓ar__law_is_row, ↓le__law_are_pairs, ↓ar__law_are_pairs, ↓le__law_due, ↓ar__law_due, ↓le__law_spoilt, ↓ar__law_spoilt, ↓le_law, ↓ar_law, ↓cls_int, ↓cls_bool, ↓cls_str, ↓cls_tuple, ↓cls_list, ↓cls_dict, ↓cls_BelowError, ↓fld_BelowError, ↓cls_NotPoly, ↓fld_NotPoly, ↓cls_NotTable, ↓fld_NotTable, ↓cls_NotPlace, ↓fld_NotPlace, ↓cls_NotPaper, ↓fld_NotPaper, ↓cls_BadNumber, ↓fld_BadNumber, ↓cls_NoAnswer, ↓fld_NoAnswer, ↓cls_TooLarge, ↓fld_TooLarge, ↓sub_BelowError_BelowError, ↓sub_BelowError_NotPoly, ↓sub_BelowError_NotTable, ↓sub_BelowError_NotPlace, ↓sub_BelowError_NotPaper, ↓sub_BelowError_BadNumber, ↓sub_BelowError_NoAnswer, ↓sub_BelowError_TooLarge, ↓sub_BelowError_ValueError, ↓sub_NotPoly_BelowError, ↓sub_NotPoly_NotPoly, ↓sub_NotPoly_NotTable, ↓sub_NotPoly_NotPlace, ↓sub_NotPoly_NotPaper, ↓sub_NotPoly_BadNumber, ↓sub_NotPoly_NoAnswer, ↓sub_NotPoly_TooLarge, ↓sub_NotPoly_ValueError, ↓sub_NotTable_BelowError, ↓sub_NotTable_NotPoly, ↓sub_NotTable_NotTable, ↓sub_NotTable_NotPlace, ↓sub_NotTable_NotPaper, ↓sub_NotTable_BadNumber, ↓sub_NotTable_NoAnswer, ↓sub_NotTable_TooLarge, ↓sub_NotTable_ValueError, ↓sub_NotPlace_BelowError, ↓sub_NotPlace_NotPoly, ↓sub_NotPlace_NotTable, ↓sub_NotPlace_NotPlace, ↓sub_NotPlace_NotPaper, ↓sub_NotPlace_BadNumber, ↓sub_NotPlace_NoAnswer, ↓sub_NotPlace_TooLarge, ↓sub_NotPlace_ValueError, ↓sub_NotPaper_BelowError, ↓sub_NotPaper_NotPoly, ↓sub_NotPaper_NotTable, ↓sub_NotPaper_NotPlace, ↓sub_NotPaper_NotPaper, ↓sub_NotPaper_BadNumber, ↓sub_NotPaper_NoAnswer, ↓sub_NotPaper_TooLarge, ↓sub_NotPaper_ValueError, ↓sub_BadNumber_BelowError, ↓sub_BadNumber_NotPoly, ↓sub_BadNumber_NotTable, ↓sub_BadNumber_NotPlace, ↓sub_BadNumber_NotPaper, ↓sub_BadNumber_BadNumber, ↓sub_BadNumber_NoAnswer, ↓sub_BadNumber_TooLarge, ↓sub_BadNumber_ValueError, ↓sub_NoAnswer_BelowError, ↓sub_NoAnswer_NotPoly, ↓sub_NoAnswer_NotTable, ↓sub_NoAnswer_NotPlace, ↓sub_NoAnswer_NotPaper, ↓sub_NoAnswer_BadNumber, ↓sub_NoAnswer_NoAnswer, ↓sub_NoAnswer_TooLarge, ↓sub_NoAnswer_ValueError, ↓sub_TooLarge_BelowError, ↓sub_TooLarge_NotPoly, ↓sub_TooLarge_NotTable, ↓sub_TooLarge_NotPlace, ↓sub_TooLarge_NotPaper, ↓sub_TooLarge_BadNumber, ↓sub_TooLarge_NoAnswer, ↓sub_TooLarge_TooLarge, ↓sub_TooLarge_ValueError, ↓con_int, ↓con_str, ↓con_bool, ↓con_tuple, ↓con_list, ↓con_dict, ↓con_BelowError, ↓con_NotPoly, ↓con_NotTable, ↓con_NotPlace, ↓con_NotPaper, ↓con_BadNumber, ↓con_NoAnswer, ↓con_TooLarge, ↓con_is_integer, ↓con_is_row, ↓con_are_pairs, ↓con_is_told_table, ↓con_is_told_poly, ↓con_FORMS, ↓con_has_form, ↓con_SMALL, ↓con_FIGURES, ↓con_words_of, ↓con_is_name, ↓con_number_in, ↓con__law_number, ↓con__law_draws, ↓con__law_next, ↓con__law_more, ↓con__law_pick, ↓con__law_kind, ↓con__law_line, ↓con__law_number_of, ↓con__law_is_row, ↓con__law_are_pairs, ↓con__law_due, ↓con__law_spoilt, ↓con_law, ↓call_c])
local macro_rules | `(tactic| simp_arith [$ls:simpLemma,*]) => `(tactic| simp -dsimp only [Nat.reduceAdd, Nat.reduceSub, Nat.reduceLT, Nat.reduceLeDiff, Nat.reduceEqDiff, Nat.reduceBEq, Int.reduceEq, Int.reduceLT, Int.reduceLE, Int.reduceAdd, Int.reduceSub, Int.reduceMul, Int.reduceNeg, String.reduceEq, String.reduceBEq, ↓reduceIte, ↓W_ok, ↓W_ex, ↓W_st, W_ite, ↓FW_ok, ↓FW_ex, ↓FW_st, FW_ite, OK_some, OK_none, OK_itn, OK_map, OK_bind, BK_t, BK_f, BK_dec, BK_not, gK_frz, gK_lst, gK_dct, aK_val, aK_plc, vK_frz, vK_lst, vK_dct, pK_frz, pK_lst, pK_dct, pK_ins, pK_exc, KS_nx, KS_rt, KS_bk, KS_ct, KL_nx, KL_ct, KL_bk, KL_rt, ↓W_bind, ↓W_pure, ↓W_stuck, ↓W_opt, ↓W_iteM, ↓W_const, ↓dOf_W, ↓aOf_W, ↓tOf_W, ↓itOf_W, ↓one_W, ↓two_W, ↓many_W, ↓blM_W, ↓eA_mk, ↓eT_mk, ↓eW_mk, ↓eI_mk, ↓eA_ts, ↓eW_ts, ↓eD_W, frzO_frz, frzO_lst, frzO_dct, frzO_ins, frzO_exc, ↓eV_var, ↓eA_var, ↓eW_var, ↓eT_var, ↓eI_var, ↓eV_non, ↓eV_bl, ↓eV_int, ↓eV_str, ↓eV_glb, ↓eV_bin, ↓eV_neg, ↓eT_nt, ↓eV_nt, ↓eV_band, ↓eV_bor, ↓eT_band, ↓eT_bor, ↓eAnd_one, ↓eAnd_cons, ↓eOr_one, ↓eOr_cons, ↓eTs_nil, ↓eTs_and, ↓eTs_or, ↓eT_cmp, ↓eV_cmp, ↓eT_chn, ↓eV_chn, ↓eV_ife, ↓eAs_nil, ↓eAs_cons, ↓eDs_nil, ↓eDs_cons, ↓eSp_nil, ↓eSp_cons, ↓eSp_star, ↓eCs_nil, ↓eCs_cons, ↓eCs_nof, ↓eArg_lent, qK_frz, qK_lst, qK_dct, qK_exc, ↓eArg_var, ↓eArg_oth, gets_nil, gets_cons, ↓doCall_W, ↓eV_call, ↓eV_calle, getOs_nil, getOs_cons, getO_val, getO_plc, ↓eV_bi1, ↓eV_bi2, ↓eV_bi0, ↓eV_isi, ↓eI_range, ↓eI_zip, ↓eI_enum, ↓eI_rev, ↓eV_plain, mK_lst, ↓eV_mut, ↓eV_sub, oK_none, intK_int, oK_some, ↓eV_slc, ↓eV_rev, ↓eV_lst, ↓eV_tup, ↓eG_var, ↓eGs_nil, ↓eGs_cons, tK_tup, ↓eG_tup, ↓eG_sub, ↓xSs_nil, ↓xSs_cons, ↓xS_asg, ↓eVs_nil, ↓eVs_cons, ↓eGo_nil, ↓eGo_cons, ↓xS_asg2, ↓xS_retv, ↓xS_ret, ↓xS_retn, ↓xS_ifs, ↓xS_for, ↓forR_nil, ↓xS_brk, ↓xS_cnt, ↓xS_pas, ↓xS_expr, ↓xS_rais, ↓xS_try, ↓eIfs_nil, ↓eIfs_cons, ↓eV_lc, ↓lcR_nil, ofString_eq, ofString_beq, ↓isWalk_len, ↓isIsi_len, ↓isWalk_int, ↓isIsi_int, ↓isWalk_abs, ↓isIsi_abs, ↓isWalk_all, ↓isIsi_all, ↓isWalk_any, ↓isIsi_any, ↓isWalk_sum, ↓isIsi_sum, ↓isWalk_tuple, ↓isIsi_tuple, ↓isWalk_list, ↓isIsi_list, ↓isWalk_sorted, ↓isIsi_sorted, ↓isWalk_min, ↓isIsi_min, ↓isWalk_max, ↓isIsi_max, ↓isWalk_repr, ↓isIsi_repr, ↓isWalk_str, ↓isIsi_str, ↓isWalk_dict, ↓isIsi_dict, ↓isWalk_isinstance, ↓isIsi_isinstance, ↓biD_len, ↓biD_int, ↓biD_abs, ↓biD_all, ↓biD_any, ↓biD_sum, ↓biD_tuple, ↓biD_list, ↓biD_sorted, ↓biD_min, ↓biD_max, ↓biD_repr, ↓biD_str, ↓biD_dict, ↓isIv_index, ↓isMut_index, ↓isIv_count, ↓isMut_count, ↓isIv_get, ↓isMut_get, ↓isIv_join, ↓isMut_join, ↓isIv_split, ↓isMut_split, ↓isIv_startswith, ↓isMut_startswith, ↓isIv_endswith, ↓isMut_endswith, ↓isIv_append, ↓isMut_append, ↓isIv_extend, ↓isMut_extend, ↓isIv_reverse, ↓isMut_reverse, ↓isIv_pop, ↓isMut_pop, ↓isIv_insert, ↓isMut_insert, ↓isPl_index, ↓methD_index, ↓kindM_index_lst, ↓kindM_index_str, ↓isPl_count, ↓methD_count, ↓kindM_count_lst, ↓kindM_count_str, ↓isPl_get, ↓methD_get, ↓kindM_get_lst, ↓kindM_get_str, ↓isPl_join, ↓methD_join, ↓kindM_join_lst, ↓kindM_join_str, ↓isPl_split, ↓methD_split, ↓kindM_split_lst, ↓kindM_split_str, ↓isPl_startswith, ↓methD_startswith, ↓kindM_startswith_lst, ↓kindM_startswith_str, ↓isPl_endswith, ↓methD_endswith, ↓kindM_endswith_lst, ↓kindM_endswith_str, ↓mutD_append, ↓mutD_extend, ↓mutD_reverse, ↓mutD_pop, ↓mutD_insert, ↓bi_len_tup, ↓bi_len_lst, ↓bi_len_str, ↓bi_int_int, ↓bi_int_bl, ↓bi_int_str, ↓bi_abs_int, ↓bi_all_lst, ↓bi_any_lst, ↓bi_sum_lst, ↓bi_sum_tup, ↓bi_tuple_lst, ↓bi_tuple_tup, ↓bi_list_lst, ↓bi_list_tup, ↓bi_sorted_lst, ↓bi_sorted_tup, ↓bi_min_two, ↓bi_max_two, ↓bi_min_lst, ↓bi_max_lst, ↓bi_repr_one, ↓bi_str_int, ↓bi_str_str, ↓mt_index_lst, ↓mt_count_lst, ↓mt_join_lst, ↓mt_split_str, ↓mt_startswith_str, ↓mt_endswith_str, ↓mu_append_lst, ↓mu_extend_lst, ↓mu_reverse_lst, ↓mu_pop_lst, ↓mu_insert_lst, ↓binD_add, ↓binD_addb, ↓binD_adds, ↓binD_addt, ↓binD_addl, ↓binD_sub, ↓binD_mul, ↓binD_mull, ↓binD_fdv, ↓binD_mod, ↓binD_pow, ↓cmpD_eqs, ↓cmpD_nes, ↓cmpD_lt, ↓cmpD_lts, ↓cmpD_le, ↓cmpD_les, ↓cmpD_gt, ↓cmpD_ge, ↓cmpD_is, ↓cmpD_isn, ↓cmpD_isb, ↓cmpD_isnb, ↓cmpD_eqi, ↓cmpD_nei, ↓cmpD_in, ↓cmpD_nin, ↓subD_tup, ↓subD_lst, ↓subD_str, ↓slcD_tup, ↓slcD_lst, ↓slcD_str, ↓itemsD_tup, ↓itemsD_lst, ↓itemsD_str, ↓itemsD_scr, ↓revD_tup, ↓revD_lst, ↓negD_int, ↓tru_non, ↓tru_bl, ↓tru_int, ↓tru_str, ↓tru_tup, ↓tru_lst, ↓isNon_non, ↓isNon_bl, ↓isNon_int, ↓isNon_str, ↓isNon_tup, ↓isNon_lst, ↓isiD_non, ↓isiD_bl_int, ↓isiD_bl_bool, ↓isiD_bl_str, ↓isiD_bl_tuple, ↓isiD_bl_list, ↓isiD_bl_dict, ↓isiD_int_int, ↓isiD_int_bool, ↓isiD_int_str, ↓isiD_int_tuple, ↓isiD_int_list, ↓isiD_int_dict, ↓isiD_str_int, ↓isiD_str_bool, ↓isiD_str_str, ↓isiD_str_tuple, ↓isiD_str_list, ↓isiD_str_dict, ↓isiD_tup_int, ↓isiD_tup_bool, ↓isiD_tup_str, ↓isiD_tup_tuple, ↓isiD_tup_list, ↓isiD_tup_dict, ↓isiD_lst_int, ↓isiD_lst_bool, ↓isiD_lst_str, ↓isiD_lst_tuple, ↓isiD_lst_list, ↓isiD_lst_dict, ↓getO_zero, ↓getO_succ, ↓set_zero, ↓set_succ, ↓wipe_nil, ↓wipe_cons, ↓back_nil, ↓back_cons, ↓lb_lent, ↓lb_keep, ↓lb_val, ↓lb_nil, ↓lb_nof, ↓ol_nil, ↓ol_val, ↓ol_lent, ↓ol_exc, ↓tail_c, ↓tail_n, ↓plcs_nil, ↓plcs_val, ↓plcs_plc, ↓nodup_nil, ↓nodup_one, ↓outs_nil, ↓outs_frz, ↓outs_exc, ↓ownO_lst, ↓ownO_dct, ↓ownO_ins, ↓outs_lst, ↓outs_dct, ↓outs_ins, all_id, any_id, blsD_map, intsD_map, strsD_map, strsD_str, ↓isV_non, ↓isStar_non, ↓isMk_non, ↓isTs_non, ↓isTup2l_non, ↓isTup2r_non, ↓isV_bl, ↓isStar_bl, ↓isMk_bl, ↓isTs_bl, ↓isTup2l_bl, ↓isTup2r_bl, ↓isV_int, ↓isStar_int, ↓isMk_int, ↓isTs_int, ↓isTup2l_int, ↓isTup2r_int, ↓isV_str, ↓isStar_str, ↓isMk_str, ↓isTs_str, ↓isTup2l_str, ↓isTup2r_str, ↓isV_var, ↓isStar_var, ↓isMk_var, ↓isTs_var, ↓isTup2l_var, ↓isTup2r_var, ↓isV_glb, ↓isStar_glb, ↓isMk_glb, ↓isTs_glb, ↓isTup2l_glb, ↓isTup2r_glb, ↓isV_bin, ↓isStar_bin, ↓isMk_bin, ↓isTs_bin, ↓isTup2l_bin, ↓isTup2r_bin, ↓isV_neg, ↓isStar_neg, ↓isMk_neg, ↓isTs_neg, ↓isTup2l_neg, ↓isTup2r_neg, ↓isV_nt, ↓isStar_nt, ↓isMk_nt, ↓isTs_nt, ↓isTup2l_nt, ↓isTup2r_nt, ↓isV_band, ↓isStar_band, ↓isMk_band, ↓isTs_band, ↓isTup2l_band, ↓isTup2r_band, ↓isV_bor, ↓isStar_bor, ↓isMk_bor, ↓isTs_bor, ↓isTup2l_bor, ↓isTup2r_bor, ↓isV_cmp, ↓isStar_cmp, ↓isMk_cmp, ↓isTs_cmp, ↓isTup2l_cmp, ↓isTup2r_cmp, ↓isV_chn, ↓isStar_chn, ↓isMk_chn, ↓isTs_chn, ↓isTup2l_chn, ↓isTup2r_chn, ↓isV_chn3, ↓isStar_chn3, ↓isMk_chn3, ↓isTs_chn3, ↓isTup2l_chn3, ↓isTup2r_chn3, ↓isV_ife, ↓isStar_ife, ↓isMk_ife, ↓isTs_ife, ↓isTup2l_ife, ↓isTup2r_ife, ↓isV_call, ↓isStar_call, ↓isMk_call, ↓isTs_call, ↓isTup2l_call, ↓isTup2r_call, ↓isV_bi, ↓isStar_bi, ↓isMk_bi, ↓isTs_bi, ↓isTup2l_bi, ↓isTup2r_bi, ↓isV_calle, ↓isStar_calle, ↓isMk_calle, ↓isTs_calle, ↓isTup2l_calle, ↓isTup2r_calle, ↓isV_meth, ↓isStar_meth, ↓isMk_meth, ↓isTs_meth, ↓isTup2l_meth, ↓isTup2r_meth, ↓isV_attr, ↓isStar_attr, ↓isMk_attr, ↓isTs_attr, ↓isTup2l_attr, ↓isTup2r_attr, ↓isV_sub, ↓isStar_sub, ↓isMk_sub, ↓isTs_sub, ↓isTup2l_sub, ↓isTup2r_sub, ↓isV_slc, ↓isStar_slc, ↓isMk_slc, ↓isTs_slc, ↓isTup2l_slc, ↓isTup2r_slc, ↓isV_lst, ↓isStar_lst, ↓isMk_lst, ↓isTs_lst, ↓isTup2l_lst, ↓isTup2r_lst, ↓isV_tup, ↓isStar_tup, ↓isMk_tup, ↓isTs_tup, ↓isV_star, ↓isStar_star, ↓isMk_star, ↓isTs_star, ↓isTup2l_star, ↓isTup2r_star, ↓isV_dic, ↓isStar_dic, ↓isMk_dic, ↓isTs_dic, ↓isTup2l_dic, ↓isTup2r_dic, ↓isV_lc, ↓isStar_lc, ↓isMk_lc, ↓isTs_lc, ↓isTup2l_lc, ↓isTup2r_lc, ↓isV_lc2, ↓isStar_lc2, ↓isMk_lc2, ↓isTs_lc2, ↓isTup2l_lc2, ↓isTup2r_lc2, ↓isV_dc, ↓isStar_dc, ↓isMk_dc, ↓isTs_dc, ↓isTup2l_dc, ↓isTup2r_dc, ↓isWalk_range, ↓isWalk_zip, ↓isWalk_enumerate, ↓isWalk_reversed, ↓nd0, ↓nd1, ↓nd2, ↓nd3, ↓true_eq, ↓false_eq, ↓tf_eq, ↓ft_eq, ↓rep_zero, ↓rep_succ, not_t, not_f, band_t, band_f, and_tt, and_tr, and_fl, and_fr, imp_t, imp_f, imp_tt, n_t, n_f, dec_eq, dec_ne, bnot_eq, bnot_ne, band_eq, eq_self', mapc, mapn, appc, appn, lenc, lmap, lapp, lrange, cps_len, lenn, noExc_cons, noExc_nil, nx1_frz, nx1_lst, nx1_dct, nx1_ins, nx1_none, noExcR_nx, noExcR_frz, noExcR_lst, noExcR_dct, drs_len, drs_app, drs_snoc, drs_three, drs_rev, drs_empty, lim_eq, ↓le_is_integer, ↓ar_is_integer, ↓le_is_row, ↓ar_is_row, ↓le_are_pairs, ↓ar_are_pairs, ↓le_is_told_table, ↓ar_is_told_table, ↓le_is_told_poly, ↓ar_is_told_poly, ↓le_has_form, ↓ar_has_form, ↓le_words_of, ↓ar_words_of, ↓le_is_name, ↓ar_is_name, ↓le_number_in, ↓ar_number_in, ↓le__law_number, ↓ar__law_number, ↓le__law_draws, ↓ar__law_draws, ↓le__law_next, ↓ar__law_next, ↓le__law_more, ↓ar__law_more, ↓le__law_pick, ↓ar__law_pick, ↓le__law_kind, ↓ar__law_kind, ↓le__law_line, ↓ar__law_line, ↓le__law_number_of, ↓ar__law_number_of, ↓le__law_is_row, ↓ar__law_is_row, ↓le__law_are_pairs, ↓ar__law_are_pairs, ↓le__law_due, ↓ar__law_due, ↓le__law_spoilt, ↓ar__law_spoilt, ↓le_law, ↓ar_law, ↓cls_int, ↓cls_bool, ↓cls_str, ↓cls_tuple, ↓cls_list, ↓cls_dict, ↓cls_BelowError, ↓fld_BelowError, ↓cls_NotPoly, ↓fld_NotPoly, ↓cls_NotTable, ↓fld_NotTable, ↓cls_NotPlace, ↓fld_NotPlace, ↓cls_NotPaper, ↓fld_NotPaper, ↓cls_BadNumber, ↓fld_BadNumber, ↓cls_NoAnswer, ↓fld_NoAnswer, ↓cls_TooLarge, ↓fld_TooLarge, ↓sub_BelowError_BelowError, ↓sub_BelowError_NotPoly, ↓sub_BelowError_NotTable, ↓sub_BelowError_NotPlace, ↓sub_BelowError_NotPaper, ↓sub_BelowError_BadNumber, ↓sub_BelowError_NoAnswer, ↓sub_BelowError_TooLarge, ↓sub_BelowError_ValueError, ↓sub_NotPoly_BelowError, ↓sub_NotPoly_NotPoly, ↓sub_NotPoly_NotTable, ↓sub_NotPoly_NotPlace, ↓sub_NotPoly_NotPaper, ↓sub_NotPoly_BadNumber, ↓sub_NotPoly_NoAnswer, ↓sub_NotPoly_TooLarge, ↓sub_NotPoly_ValueError, ↓sub_NotTable_BelowError, ↓sub_NotTable_NotPoly, ↓sub_NotTable_NotTable, ↓sub_NotTable_NotPlace, ↓sub_NotTable_NotPaper, ↓sub_NotTable_BadNumber, ↓sub_NotTable_NoAnswer, ↓sub_NotTable_TooLarge, ↓sub_NotTable_ValueError, ↓sub_NotPlace_BelowError, ↓sub_NotPlace_NotPoly, ↓sub_NotPlace_NotTable, ↓sub_NotPlace_NotPlace, ↓sub_NotPlace_NotPaper, ↓sub_NotPlace_BadNumber, ↓sub_NotPlace_NoAnswer, ↓sub_NotPlace_TooLarge, ↓sub_NotPlace_ValueError, ↓sub_NotPaper_BelowError, ↓sub_NotPaper_NotPoly, ↓sub_NotPaper_NotTable, ↓sub_NotPaper_NotPlace, ↓sub_NotPaper_NotPaper, ↓sub_NotPaper_BadNumber, ↓sub_NotPaper_NoAnswer, ↓sub_NotPaper_TooLarge, ↓sub_NotPaper_ValueError, ↓sub_BadNumber_BelowError, ↓sub_BadNumber_NotPoly, ↓sub_BadNumber_NotTable, ↓sub_BadNumber_NotPlace, ↓sub_BadNumber_NotPaper, ↓sub_BadNumber_BadNumber, ↓sub_BadNumber_NoAnswer, ↓sub_BadNumber_TooLarge, ↓sub_BadNumber_ValueError, ↓sub_NoAnswer_BelowError, ↓sub_NoAnswer_NotPoly, ↓sub_NoAnswer_NotTable, ↓sub_NoAnswer_NotPlace, ↓sub_NoAnswer_NotPaper, ↓sub_NoAnswer_BadNumber, ↓sub_NoAnswer_NoAnswer, ↓sub_NoAnswer_TooLarge, ↓sub_NoAnswer_ValueError, ↓sub_TooLarge_BelowError, ↓sub_TooLarge_NotPoly, ↓sub_TooLarge_NotTable, ↓sub_TooLarge_NotPlace, ↓sub_TooLarge_NotPaper, ↓sub_TooLarge_BadNumber, ↓sub_TooLarge_NoAnswer, ↓sub_TooLarge_TooLarge, ↓sub_TooLarge_ValueError, ↓con_int, ↓con_str, ↓con_bool, ↓con_tuple, ↓con_list, ↓con_dict, ↓con_BelowError, ↓con_NotPoly, ↓con_NotTable, ↓con_NotPlace, ↓con_NotPaper, ↓con_BadNumber, ↓con_NoAnswer, ↓con_TooLarge, ↓con_is_integer, ↓con_is_row, ↓con_are_pairs, ↓con_is_told_table, ↓con_is_told_poly, ↓con_FORMS, ↓con_has_form, ↓con_SMALL, ↓con_FIGURES, ↓con_words_of, ↓con_is_name, ↓con_number_in, ↓con__law_number, ↓con__law_draws, ↓con__law_next, ↓con__law_more, ↓con__law_pick, ↓con__law_kind, ↓con__law_line, ↓con__law_number_of, ↓con__law_is_row, ↓con__law_are_pairs, ↓con__law_due, ↓con__law_spoilt, ↓con_law, ↓call_c, $ls,*])
/-! spoilt terms -/
def spLeaf : D → Bool
  | .non => true
  | .int i => decide (i.natAbs < 10)
  | .str s => s.cps.all (· < 0x110000)
  | _ => false
def sp (L : Nat) : Nat → D → Bool
  | 0, d => spLeaf d
  | k + 1, d => match d with
    | .tup xs => decide (xs.length ≤ L) && xs.all (sp L k)
    | d => spLeaf d
theorem sp_leaf {L k : Nat} {d : D} (h : spLeaf d = true) : sp L k d = true := by
  cases k with
  | zero => exact h
  | succ k => cases d <;> first | exact h | (simp [spLeaf] at h; done)
theorem sp_cases {L k : Nat} {d : D} (h : sp L k d = true) : spLeaf d = true ∨ ∃ j xs, d = .tup xs ∧ k = j + 1 ∧ xs.length ≤ L ∧ ∀ x ∈ xs, sp L j x = true := by
  cases k with
  | zero => exact .inl h
  | succ j =>
    cases d <;> first | exact .inl h | skip
    rename_i xs
    rw [sp, Bool.and_eq_true, decide_eq_true_eq, List.all_eq_true] at h
    exact .inr ⟨j, xs, rfl, rfl, h.1, h.2⟩
theorem sp_mk {L k : Nat} {xs : List D} (h1 : xs.length ≤ L) (h2 : ∀ x ∈ xs, sp L k x = true) : sp L (k + 1) (.tup xs) = true := by
  rw [sp, Bool.and_eq_true, decide_eq_true_eq, List.all_eq_true]
  exact ⟨h1, h2⟩
theorem sp_mono {L M : Nat} (hL : L ≤ M) : ∀ {j k : Nat} {d : D}, j ≤ k → sp L j d = true → sp M k d = true := by
  intro j
  induction j with
  | zero => exact fun _ h => sp_leaf h
  | succ j ih =>
    intro k d hk h
    rcases sp_cases h with h | ⟨i, xs, rfl, e, h1, h2⟩
    · exact sp_leaf h
    · obtain ⟨k, rfl⟩ : ∃ q, k = q + 1 := ⟨k - 1, by omega⟩
      obtain rfl : i = j := by omega
      exact sp_mk (by omega) fun x hx => ih (by omega) (h2 x hx)
theorem okTs_of {xs : List D} (h : ∀ x ∈ xs, okT x = true) : okTs xs = true := by
  induction xs with
  | nil => rfl
  | cons x xs ih => rw [okTs, h x (by simp), ih fun y hy => h y (by simp [hy])]; rfl
theorem rOks_of {k : Nat} {xs : List D} (h : ∀ x ∈ xs, rOk k x = true) : rOks k xs = true := by
  induction xs with
  | nil => rfl
  | cons x xs ih => rw [rOks, h x (by simp), ih fun y hy => h y (by simp [hy])]; rfl
theorem depths_of {k : Nat} {xs : List D} (h : ∀ x ∈ xs, x.depth ≤ k) : D.depths xs ≤ k := by
  induction xs with
  | nil => exact Nat.zero_le _
  | cons x xs ih => rw [D.depths]; have := h x (by simp); have := ih fun y hy => h y (by simp [hy]); omega
theorem leaf_ok {d : D} (h : spLeaf d = true) : okT d = true ∧ rOk 1 d = true ∧ d.depth = 0 := by
  cases d <;> first | (simp [spLeaf] at h; done) | exact ⟨rfl, rfl, rfl⟩ | exact ⟨rfl, h, rfl⟩
theorem sp_ok {L : Nat} (hL : L ≤ 100) : ∀ {k : Nat} {d : D}, sp L k d = true → okT d = true ∧ rOk 1 d = true ∧ d.depth ≤ k := by
  intro k
  induction k with
  | zero => intro d h; have := leaf_ok h; exact ⟨this.1, this.2.1, by omega⟩
  | succ k ih =>
    intro d h
    rcases sp_cases h with h | ⟨i, xs, rfl, e, h1, h2⟩
    · have := leaf_ok h; exact ⟨this.1, this.2.1, by omega⟩
    · obtain rfl : i = k := by omega
      refine ⟨?_, ?_, ?_⟩
      · rw [okT, Bool.and_eq_true, decide_eq_true_eq]
        exact ⟨by omega, okTs_of fun x hx => (ih (h2 x hx)).1⟩
      · rw [rOk]; exact rOks_of fun x hx => (ih (h2 x hx)).2.1
      · rw [D.depth]; have := depths_of fun x hx => (ih (h2 x hx)).2.2; omega
def spoQ (L k : Nat) (d : D) (r : O) (os : List O) : Prop := ∃ (x : D) (ms : List Int), r = .frz x ∧ sp L k x = true ∧ os = [.lst (drs ms), .frz d] ∧ Dr ms
theorem le1 (n : Nat) : (cx n).lent "_law_next" = [true] := by kernel_rfl
theorem le2 (n : Nat) : (cx n).lent "_law_pick" = [true, false] := by kernel_rfl
def nine (d : D) : List D := [.non, .str "ada", .str "", .int 5, .tup [], .tup [.int 1], .tup [.tup []], .tup [.str "a"], d]
theorem nine_sp {L k : Nat} {d x : D} (hL : 1 ≤ L) (hd : sp L k d = true) (h : x ∈ nine d) : sp (2 * L + 1) (k + 2) x = true := by
  simp only [nine, List.mem_cons, List.not_mem_nil, or_false] at h
  have c : ∀ {y : D}, sp 3 2 y = true → sp (2 * L + 1) (k + 2) y = true := fun h => sp_mono (by omega) (by omega) h
  rcases h with rfl | rfl | rfl | rfl | rfl | rfl | rfl | rfl | rfl
  · exact c (by kernel_rfl)
  · exact c (by kernel_rfl)
  · exact c (by kernel_rfl)
  · exact c (by kernel_rfl)
  · exact c (by kernel_rfl)
  · exact c (by kernel_rfl)
  · exact c (by kernel_rfl)
  · exact c (by kernel_rfl)
  · exact sp_mono (by omega) (by omega) hd
theorem four_sp {M k : Nat} {x : D} (hM : 3 ≤ M) (h : x ∈ [D.tup [.int 0], .tup [.str ""], .tup [.tup []], .non]) : sp M (k + 2) x = true := by
  simp only [List.mem_cons, List.not_mem_nil, or_false] at h
  have c : ∀ {y : D}, sp 3 2 y = true → sp M (k + 2) y = true := fun h => sp_mono (by omega) (by omega) h
  rcases h with rfl | rfl | rfl | rfl
  · exact c (by kernel_rfl)
  · exact c (by kernel_rfl)
  · exact c (by kernel_rfl)
  · exact c (by kernel_rfl)
theorem spoilt {L : Nat} (hL : 1 ≤ L) (hL2 : L ≤ 40) : ∀ (k n : Nat), k + 3 < n → k ≤ 40 → ∀ (ns : List Int) (d : D), Dr ns → sp L k d = true → FW (P.call n "_law_spoilt" [.lst (drs ns), .frz d]) (spoQ (2 * L + 1) (k + 2) d) (fun _ _ => False) := by
  intro k
  induction k with
  | zero =>
    intro n hn hk ns d hd hs
    refine call_W (by omega) lk__law_spoilt rfl fun m _ => ?_
    simp only [P_k21.f__law_spoilt]
    have pk : ∀ ns d, Dr ns → FW (P.call m "_law_pick" [.lst (drs ns), .frz (.lst (nine d))]) (pickQ ns (nine d) (.lst (nine d))) (fun _ _ => False) :=
      fun ns d h => pick (by omega) L_law_next L_law_pick h (List.cons_ne_nil _ _)
    cases d <;> first | (simp [sp, spLeaf] at hs; done) | skip
    all_goals
      simp_arith
      refine FW_mono (pk ns _ hd) ?_ (fun _ _ h => h.elim)
      rintro _ _ ⟨x, ms, rfl, hx, rfl, hm, hl⟩
      simp_arith
      exact ⟨x, ms, rfl, nine_sp hL hs hx, rfl, hm⟩
  | succ k ih =>
    intro n hn hk ns d hd hs
    refine call_W (by omega) lk__law_spoilt rfl fun m _ => ?_
    simp only [P_k21.f__law_spoilt]
    have pk : ∀ ns d, Dr ns → FW (P.call m "_law_pick" [.lst (drs ns), .frz (.lst (nine d))]) (pickQ ns (nine d) (.lst (nine d))) (fun _ _ => False) :=
      fun ns d h => pick (by omega) L_law_next L_law_pick h (List.cons_ne_nil _ _)
    rcases sp_cases hs with hf | ⟨j, xs, rfl, e, h1, h2⟩
    · cases d <;> first | (simp [spLeaf] at hf; done) | skip
      all_goals
        simp_arith
        refine FW_mono (pk ns _ hd) ?_ (fun _ _ h => h.elim)
        rintro _ _ ⟨x, ms, rfl, hx, rfl, hm, hl⟩
        simp_arith
        exact ⟨x, ms, rfl, nine_sp hL hs hx, rfl, hm⟩
    · obtain rfl : k = j := by omega
      simp_arith
      refine FW_mono (next (by omega) L_law_next hd) ?_ (fun _ _ h => h.elim)
      rintro _ _ ⟨i, ms, rfl, rfl, h0, h1', hm, hl⟩
      simp_arith
      refine ⟨fun hc => ?_, fun hc => ?_⟩
      · refine FW_mono (pk ms _ hm) ?_ (fun _ _ h => h.elim)
        rintro _ _ ⟨x, ms, rfl, hx, rfl, hm, hl⟩
        simp_arith
        exact ⟨x, ms, rfl, nine_sp hL hs hx, rfl, hm⟩
      · have ok1 := sp_ok (by omega) hs
        have hq : cmpD .eq (.tup xs) (.tup []) = some xs.isEmpty := by
          rw [cmpD_eq (eqOk_of ok1.2.1 (by omega)) (by kernel_rfl)]
          cases xs <;> rfl
        have p4 : ∀ ns, Dr ns → FW (P.call m "_law_pick" [.lst (drs ns), .frz (.lst [D.tup [.int 0], .tup [.str ""], .tup [.tup []], .non])]) (pickQ ns [D.tup [.int 0], .tup [.str ""], .tup [.tup []], .non] (.lst [D.tup [.int 0], .tup [.str ""], .tup [.tup []], .non])) (fun _ _ => False) :=
          fun ns h => pick (by omega) L_law_next L_law_pick h (List.cons_ne_nil _ _)
        by_cases hx : xs = []
        · subst hx
          simp_arith [hq, List.isEmpty]
          refine FW_mono (p4 ms hm) ?_ (fun _ _ h => h.elim)
          rintro _ _ ⟨x, ms, rfl, hx, rfl, hm, hl⟩
          simp_arith
          exact ⟨x, ms, rfl, four_sp (by omega) hx, rfl, hm⟩
        · have he : xs.isEmpty = false := by cases xs with | nil => exact absurd rfl hx | cons _ _ => rfl
          have hp : 0 < xs.length := by cases xs with | nil => exact absurd rfl hx | cons _ _ => simp
          have hne : ¬ (xs.length : Int) = 0 := by omega
          simp_arith [hq, he]
          refine FW_mono (next (by omega) L_law_next hm) ?_ (fun _ _ h => h.elim)
          rintro _ _ ⟨a, ms2, rfl, rfl, h3, h4, hm2, hl2⟩
          simp_arith [hne]
          refine FW_mono (next (by omega) L_law_next hm2) ?_ (fun _ _ h => h.elim)
          rintro _ _ ⟨b, ms3, rfl, rfl, h5, h6, hm3, hl3⟩
          simp_arith
          have hf := fmod_nn (i := a) (j := xs.length) (by omega)
          have hj : (a.fmod xs.length).toNat < xs.length := by omega
          refine ⟨fun hc => ?_, fun hc => ⟨fun hc2 => ?_, fun hc2 => ?_⟩⟩
          · have l1 := len_cut (xs := xs) (lo := none) (hi := some (a.fmod xs.length))
            have l2 := len_cut (xs := xs) (lo := some (a.fmod xs.length + 1)) (hi := none)
            refine ⟨by omega, _, ms3, rfl, sp_mk (by rw [List.length_append]; omega) fun x hx => ?_, rfl, hm3⟩
            rcases List.mem_append.mp hx with hx | hx
            · exact sp_mono (by omega) (by omega) (h2 x (mem_cut hx))
            · exact sp_mono (by omega) (by omega) (h2 x (mem_cut hx))
          · have l1 := len_cut (xs := xs) (lo := some (a.fmod xs.length)) (hi := some (a.fmod xs.length + 1))
            refine ⟨by omega, _, ms3, rfl, sp_mk (by rw [List.length_append]; omega) fun x hx => ?_, rfl, hm3⟩
            rcases List.mem_append.mp hx with hx | hx
            · exact sp_mono (by omega) (by omega) (h2 x hx)
            · exact sp_mono (by omega) (by omega) (h2 x (mem_cut hx))
          · simp_arith [ixN_ok hf.1 hf.2, List.getElem?_eq_getElem hj]
            refine FW_mono (ih m (by omega) (by omega) ms3 _ hm3 (h2 _ (List.getElem_mem hj))) ?_ (fun _ _ h => h.elim)
            rintro _ _ ⟨y, ms4, rfl, hy, rfl, hm4⟩
            simp_arith
            have l1 := len_cut (xs := xs) (lo := none) (hi := some (a.fmod xs.length))
            have l2 := len_cut (xs := xs) (lo := some (a.fmod xs.length + 1)) (hi := none)
            refine ⟨by omega, by omega, _, ms4, rfl, sp_mk (by rw [List.length_append, List.length_append]; simp; omega) fun x hx => ?_, rfl, hm4⟩
            rcases List.mem_append.mp hx with hx | hx
            · rcases List.mem_append.mp hx with hx | hx
              · exact sp_mono (by omega) (by omega) (h2 x (mem_cut hx))
              · rw [List.mem_singleton] at hx
                subst hx
                exact hy
            · exact sp_mono (by omega) (by omega) (h2 x (mem_cut hx))
end Z.Y.N21
end

section
set_option Elab.async false
set_option linter.all false
set_option maxRecDepth 100000
set_option maxHeartbeats 2000000
namespace Z.Y.N21
open PySem
open Z.Y0 (eV eA eT eI eW eD eG eAs eDs eSp eTs eAnd eOr eCs eArg eIfs xSs xS lcR forR eGs eVs eGo isMk isTs isV isStar negD zipD enuD rvsD)
local macro_rules | `(tactic| simp_arith) => `(tactic| simp -dsimp only [Nat.reduceAdd, Nat.reduceSub, Nat.reduceLT, Nat.reduceLeDiff, Nat.reduceEqDiff, Nat.reduceBEq, Int.reduceEq, Int.reduceLT, Int.reduceLE, Int.reduceAdd, Int.reduceSub, Int.reduceMul, Int.reduceNeg, String.reduceEq, String.reduceBEq, ↓reduceIte, ↓W_ok, ↓W_ex, ↓W_st, W_ite, ↓FW_ok, ↓FW_ex, ↓FW_st, FW_ite, OK_some, OK_none, OK_itn, OK_map, OK_bind, BK_t, BK_f, BK_dec, BK_not, gK_frz, gK_lst, gK_dct, aK_val, aK_plc, vK_frz, vK_lst, vK_dct, pK_frz, pK_lst, pK_dct, pK_ins, pK_exc, KS_nx, KS_rt, KS_bk, KS_ct, KL_nx, KL_ct, KL_bk, KL_rt, ↓W_bind, ↓W_pure, ↓W_stuck, ↓W_opt, ↓W_iteM, ↓W_const, ↓dOf_W, ↓aOf_W, ↓tOf_W, ↓itOf_W, ↓one_W, ↓two_W, ↓many_W, ↓blM_W, ↓eA_mk, ↓eT_mk, ↓eW_mk, ↓eI_mk, ↓eA_ts, ↓eW_ts, ↓eD_W, frzO_frz, frzO_lst, frzO_dct, frzO_ins, frzO_exc, ↓eV_var, ↓eA_var, ↓eW_var, ↓eT_var, ↓eI_var, ↓eV_non, ↓eV_bl, ↓eV_int, ↓eV_str, ↓eV_glb, ↓eV_bin, ↓eV_neg, ↓eT_nt, ↓eV_nt, ↓eV_band, ↓eV_bor, ↓eT_band, ↓eT_bor, ↓eAnd_one, ↓eAnd_cons, ↓eOr_one, ↓eOr_cons, ↓eTs_nil, ↓eTs_and, ↓eTs_or, ↓eT_cmp, ↓eV_cmp, ↓eT_chn, ↓eV_chn, ↓eV_ife, ↓eAs_nil, ↓eAs_cons, ↓eDs_nil, ↓eDs_cons, ↓eSp_nil, ↓eSp_cons, ↓eSp_star, ↓eCs_nil, ↓eCs_cons, ↓eCs_nof, ↓eArg_lent, qK_frz, qK_lst, qK_dct, qK_exc, ↓eArg_var, ↓eArg_oth, gets_nil, gets_cons, ↓doCall_W, ↓eV_call, ↓eV_calle, getOs_nil, getOs_cons, getO_val, getO_plc, ↓eV_bi1, ↓eV_bi2, ↓eV_bi0, ↓eV_isi, ↓eI_range, ↓eI_zip, ↓eI_enum, ↓eI_rev, ↓eV_plain, mK_lst, ↓eV_mut, ↓eV_sub, oK_none, intK_int, oK_some, ↓eV_slc, ↓eV_rev, ↓eV_lst, ↓eV_tup, ↓eG_var, ↓eGs_nil, ↓eGs_cons, tK_tup, ↓eG_tup, ↓eG_sub, ↓xSs_nil, ↓xSs_cons, ↓xS_asg, ↓eVs_nil, ↓eVs_cons, ↓eGo_nil, ↓eGo_cons, ↓xS_asg2, ↓xS_retv, ↓xS_ret, ↓xS_retn, ↓xS_ifs, ↓xS_for, ↓forR_nil, ↓xS_brk, ↓xS_cnt, ↓xS_pas, ↓xS_expr, ↓xS_rais, ↓xS_try, ↓eIfs_nil, ↓eIfs_cons, ↓eV_lc, ↓lcR_nil, ofString_eq, ofString_beq, ↓isWalk_len, ↓isIsi_len, ↓isWalk_int, ↓isIsi_int, ↓isWalk_abs, ↓isIsi_abs, ↓isWalk_all, ↓isIsi_all, ↓isWalk_any, ↓isIsi_any, ↓isWalk_sum, ↓isIsi_sum, ↓isWalk_tuple, ↓isIsi_tuple, ↓isWalk_list, ↓isIsi_list, ↓isWalk_sorted, ↓isIsi_sorted, ↓isWalk_min, ↓isIsi_min, ↓isWalk_max, ↓isIsi_max, ↓isWalk_repr, ↓isIsi_repr, ↓isWalk_str, ↓isIsi_str, ↓isWalk_dict, ↓isIsi_dict, ↓isWalk_isinstance, ↓isIsi_isinstance, ↓biD_len, ↓biD_int, ↓biD_abs, ↓biD_all, ↓biD_any, ↓biD_sum, ↓biD_tuple, ↓biD_list, ↓biD_sorted, ↓biD_min, ↓biD_max, ↓biD_repr, ↓biD_str, ↓biD_dict, ↓isIv_index, ↓isMut_index, ↓isIv_count, ↓isMut_count, ↓isIv_get, ↓isMut_get, ↓isIv_join, ↓isMut_join, ↓isIv_split, ↓isMut_split, ↓isIv_startswith, ↓isMut_startswith, ↓isIv_endswith, ↓isMut_endswith, ↓isIv_append, ↓isMut_append, ↓isIv_extend, ↓isMut_extend, ↓isIv_reverse, ↓isMut_reverse, ↓isIv_pop, ↓isMut_pop, ↓isIv_insert, ↓isMut_insert, ↓isPl_index, ↓methD_index, ↓kindM_index_lst, ↓kindM_index_str, ↓isPl_count, ↓methD_count, ↓kindM_count_lst, ↓kindM_count_str, ↓isPl_get, ↓methD_get, ↓kindM_get_lst, ↓kindM_get_str, ↓isPl_join, ↓methD_join, ↓kindM_join_lst, ↓kindM_join_str, ↓isPl_split, ↓methD_split, ↓kindM_split_lst, ↓kindM_split_str, ↓isPl_startswith, ↓methD_startswith, ↓kindM_startswith_lst, ↓kindM_startswith_str, ↓isPl_endswith, ↓methD_endswith, ↓kindM_endswith_lst, ↓kindM_endswith_str, ↓mutD_append, ↓mutD_extend, ↓mutD_reverse, ↓mutD_pop, ↓mutD_insert, ↓bi_len_tup, ↓bi_len_lst, ↓bi_len_str, ↓bi_int_int, ↓bi_int_bl, ↓bi_int_str, ↓bi_abs_int, ↓bi_all_lst, ↓bi_any_lst, ↓bi_sum_lst, ↓bi_sum_tup, ↓bi_tuple_lst, ↓bi_tuple_tup, ↓bi_list_lst, ↓bi_list_tup, ↓bi_sorted_lst, ↓bi_sorted_tup, ↓bi_min_two, ↓bi_max_two, ↓bi_min_lst, ↓bi_max_lst, ↓bi_repr_one, ↓bi_str_int, ↓bi_str_str, ↓mt_index_lst, ↓mt_count_lst, ↓mt_join_lst, ↓mt_split_str, ↓mt_startswith_str, ↓mt_endswith_str, ↓mu_append_lst, ↓mu_extend_lst, ↓mu_reverse_lst, ↓mu_pop_lst, ↓mu_insert_lst, ↓binD_add, ↓binD_addb, ↓binD_adds, ↓binD_addt, ↓binD_addl, ↓binD_sub, ↓binD_mul, ↓binD_mull, ↓binD_fdv, ↓binD_mod, ↓binD_pow, ↓cmpD_eqs, ↓cmpD_nes, ↓cmpD_lt, ↓cmpD_lts, ↓cmpD_le, ↓cmpD_les, ↓cmpD_gt, ↓cmpD_ge, ↓cmpD_is, ↓cmpD_isn, ↓cmpD_isb, ↓cmpD_isnb, ↓cmpD_eqi, ↓cmpD_nei, ↓cmpD_in, ↓cmpD_nin, ↓subD_tup, ↓subD_lst, ↓subD_str, ↓slcD_tup, ↓slcD_lst, ↓slcD_str, ↓itemsD_tup, ↓itemsD_lst, ↓itemsD_str, ↓itemsD_scr, ↓revD_tup, ↓revD_lst, ↓negD_int, ↓tru_non, ↓tru_bl, ↓tru_int, ↓tru_str, ↓tru_tup, ↓tru_lst, ↓isNon_non, ↓isNon_bl, ↓isNon_int, ↓isNon_str, ↓isNon_tup, ↓isNon_lst, ↓isiD_non, ↓isiD_bl_int, ↓isiD_bl_bool, ↓isiD_bl_str, ↓isiD_bl_tuple, ↓isiD_bl_list, ↓isiD_bl_dict, ↓isiD_int_int, ↓isiD_int_bool, ↓isiD_int_str, ↓isiD_int_tuple, ↓isiD_int_list, ↓isiD_int_dict, ↓isiD_str_int, ↓isiD_str_bool, ↓isiD_str_str, ↓isiD_str_tuple, ↓isiD_str_list, ↓isiD_str_dict, ↓isiD_tup_int, ↓isiD_tup_bool, ↓isiD_tup_str, ↓isiD_tup_tuple, ↓isiD_tup_list, ↓isiD_tup_dict, ↓isiD_lst_int, ↓isiD_lst_bool, ↓isiD_lst_str, ↓isiD_lst_tuple, ↓isiD_lst_list, ↓isiD_lst_dict, ↓getO_zero, ↓getO_succ, ↓set_zero, ↓set_succ, ↓wipe_nil, ↓wipe_cons, ↓back_nil, ↓back_cons, ↓lb_lent, ↓lb_keep, ↓lb_val, ↓lb_nil, ↓lb_nof, ↓ol_nil, ↓ol_val, ↓ol_lent, ↓ol_exc, ↓tail_c, ↓tail_n, ↓plcs_nil, ↓plcs_val, ↓plcs_plc, ↓nodup_nil, ↓nodup_one, ↓outs_nil, ↓outs_frz, ↓outs_exc, ↓ownO_lst, ↓ownO_dct, ↓ownO_ins, ↓outs_lst, ↓outs_dct, ↓outs_ins, all_id, any_id, blsD_map, intsD_map, strsD_map, strsD_str, ↓isV_non, ↓isStar_non, ↓isMk_non, ↓isTs_non, ↓isTup2l_non, ↓isTup2r_non, ↓isV_bl, ↓isStar_bl, ↓isMk_bl, ↓isTs_bl, ↓isTup2l_bl, ↓isTup2r_bl, ↓isV_int, ↓isStar_int, ↓isMk_int, ↓isTs_int, ↓isTup2l_int, ↓isTup2r_int, ↓isV_str, ↓isStar_str, ↓isMk_str, ↓isTs_str, ↓isTup2l_str, ↓isTup2r_str, ↓isV_var, ↓isStar_var, ↓isMk_var, ↓isTs_var, ↓isTup2l_var, ↓isTup2r_var, ↓isV_glb, ↓isStar_glb, ↓isMk_glb, ↓isTs_glb, ↓isTup2l_glb, ↓isTup2r_glb, ↓isV_bin, ↓isStar_bin, ↓isMk_bin, ↓isTs_bin, ↓isTup2l_bin, ↓isTup2r_bin, ↓isV_neg, ↓isStar_neg, ↓isMk_neg, ↓isTs_neg, ↓isTup2l_neg, ↓isTup2r_neg, ↓isV_nt, ↓isStar_nt, ↓isMk_nt, ↓isTs_nt, ↓isTup2l_nt, ↓isTup2r_nt, ↓isV_band, ↓isStar_band, ↓isMk_band, ↓isTs_band, ↓isTup2l_band, ↓isTup2r_band, ↓isV_bor, ↓isStar_bor, ↓isMk_bor, ↓isTs_bor, ↓isTup2l_bor, ↓isTup2r_bor, ↓isV_cmp, ↓isStar_cmp, ↓isMk_cmp, ↓isTs_cmp, ↓isTup2l_cmp, ↓isTup2r_cmp, ↓isV_chn, ↓isStar_chn, ↓isMk_chn, ↓isTs_chn, ↓isTup2l_chn, ↓isTup2r_chn, ↓isV_chn3, ↓isStar_chn3, ↓isMk_chn3, ↓isTs_chn3, ↓isTup2l_chn3, ↓isTup2r_chn3, ↓isV_ife, ↓isStar_ife, ↓isMk_ife, ↓isTs_ife, ↓isTup2l_ife, ↓isTup2r_ife, ↓isV_call, ↓isStar_call, ↓isMk_call, ↓isTs_call, ↓isTup2l_call, ↓isTup2r_call, ↓isV_bi, ↓isStar_bi, ↓isMk_bi, ↓isTs_bi, ↓isTup2l_bi, ↓isTup2r_bi, ↓isV_calle, ↓isStar_calle, ↓isMk_calle, ↓isTs_calle, ↓isTup2l_calle, ↓isTup2r_calle, ↓isV_meth, ↓isStar_meth, ↓isMk_meth, ↓isTs_meth, ↓isTup2l_meth, ↓isTup2r_meth, ↓isV_attr, ↓isStar_attr, ↓isMk_attr, ↓isTs_attr, ↓isTup2l_attr, ↓isTup2r_attr, ↓isV_sub, ↓isStar_sub, ↓isMk_sub, ↓isTs_sub, ↓isTup2l_sub, ↓isTup2r_sub, ↓isV_slc, ↓isStar_slc, ↓isMk_slc, ↓isTs_slc, ↓isTup2l_slc, ↓isTup2r_slc, ↓isV_lst, ↓isStar_lst, ↓isMk_lst, ↓isTs_lst, ↓isTup2l_lst, ↓isTup2r_lst, ↓isV_tup, ↓isStar_tup, ↓isMk_tup, ↓isTs_tup, ↓isV_star, ↓isStar_star, ↓isMk_star, ↓isTs_star, ↓isTup2l_star, ↓isTup2r_star, ↓isV_dic, ↓isStar_dic, ↓isMk_dic, ↓isTs_dic, ↓isTup2l_dic, ↓isTup2r_dic, ↓isV_lc, ↓isStar_lc, ↓isMk_lc, ↓isTs_lc, ↓isTup2l_lc, ↓isTup2r_lc, ↓isV_lc2, ↓isStar_lc2, ↓isMk_lc2, ↓isTs_lc2, ↓isTup2l_lc2, ↓isTup2r_lc2, ↓isV_dc, ↓isStar_dc, ↓isMk_dc, ↓isTs_dc, ↓isTup2l_dc, ↓isTup2r_dc, ↓isWalk_range, ↓isWalk_zip, ↓isWalk_enumerate, ↓isWalk_reversed, ↓nd0, ↓nd1, ↓nd2, ↓nd3, ↓true_eq, ↓false_eq, ↓tf_eq, ↓ft_eq, ↓rep_zero, ↓rep_succ, not_t, not_f, band_t, band_f, and_tt, and_tr, and_fl, and_fr, imp_t, imp_f, imp_tt, n_t, n_f, dec_eq, dec_ne, bnot_eq, bnot_ne, band_eq, eq_self', mapc, mapn, appc, appn, lenc, lmap, lapp, lrange, cps_len, lenn, noExc_cons, noExc_nil, nx1_frz, nx1_lst, nx1_dct, nx1_ins, nx1_none, noExcR_nx, noExcR_frz, noExcR_lst, noExcR_dct, drs_len, drs_app, drs_snoc, drs_three, drs_rev, drs_empty, lim_eq, ↓le_is_integer, ↓ar_is_integer, ↓le_is_row, ↓ar_is_row, ↓le_are_pairs, ↓ar_are_pairs, ↓le_is_told_table, ↓ar_is_told_table, ↓le_is_told_poly, ↓ar_is_told_poly, ↓le_has_form, ↓ar_has_form, ↓le_words_of, ↓ar_words_of, ↓le_is_name, ↓ar_is_name, ↓le_number_in, ↓ar_number_in, ↓le__law_number, ↓ar__law_number, ↓le__law_draws, ↓ar__law_draws, ↓le__law_next, ↓ar__law_next, ↓le__law_more, ↓ar__law_more, ↓le__law_pick, ↓ar__law_pick, ↓le__law_kind, ↓ar__law_kind, ↓le__law_line, ↓ar__law_line, ↓le__law_number_of, ↓ar__law_number_of, ↓le__law_is_row, ↓ar__law_is_row, ↓le__law_are_pairs, ↓ar__law_are_pairs, ↓le__law_due, ↓ar__law_due, ↓le__law_spoilt, ↓ar__law_spoilt, ↓le_law, ↓ar_law, ↓cls_int, ↓cls_bool, ↓cls_str, ↓cls_tuple, ↓cls_list, ↓cls_dict, ↓cls_BelowError, ↓fld_BelowError, ↓cls_NotPoly, ↓fld_NotPoly, ↓cls_NotTable, ↓fld_NotTable, ↓cls_NotPlace, ↓fld_NotPlace, ↓cls_NotPaper, ↓fld_NotPaper, ↓cls_BadNumber, ↓fld_BadNumber, ↓cls_NoAnswer, ↓fld_NoAnswer, ↓cls_TooLarge, ↓fld_TooLarge, ↓sub_BelowError_BelowError, ↓sub_BelowError_NotPoly, ↓sub_BelowError_NotTable, ↓sub_BelowError_NotPlace, ↓sub_BelowError_NotPaper, ↓sub_BelowError_BadNumber, ↓sub_BelowError_NoAnswer, ↓sub_BelowError_TooLarge, ↓sub_BelowError_ValueError, ↓sub_NotPoly_BelowError, ↓sub_NotPoly_NotPoly, ↓sub_NotPoly_NotTable, ↓sub_NotPoly_NotPlace, ↓sub_NotPoly_NotPaper, ↓sub_NotPoly_BadNumber, ↓sub_NotPoly_NoAnswer, ↓sub_NotPoly_TooLarge, ↓sub_NotPoly_ValueError, ↓sub_NotTable_BelowError, ↓sub_NotTable_NotPoly, ↓sub_NotTable_NotTable, ↓sub_NotTable_NotPlace, ↓sub_NotTable_NotPaper, ↓sub_NotTable_BadNumber, ↓sub_NotTable_NoAnswer, ↓sub_NotTable_TooLarge, ↓sub_NotTable_ValueError, ↓sub_NotPlace_BelowError, ↓sub_NotPlace_NotPoly, ↓sub_NotPlace_NotTable, ↓sub_NotPlace_NotPlace, ↓sub_NotPlace_NotPaper, ↓sub_NotPlace_BadNumber, ↓sub_NotPlace_NoAnswer, ↓sub_NotPlace_TooLarge, ↓sub_NotPlace_ValueError, ↓sub_NotPaper_BelowError, ↓sub_NotPaper_NotPoly, ↓sub_NotPaper_NotTable, ↓sub_NotPaper_NotPlace, ↓sub_NotPaper_NotPaper, ↓sub_NotPaper_BadNumber, ↓sub_NotPaper_NoAnswer, ↓sub_NotPaper_TooLarge, ↓sub_NotPaper_ValueError, ↓sub_BadNumber_BelowError, ↓sub_BadNumber_NotPoly, ↓sub_BadNumber_NotTable, ↓sub_BadNumber_NotPlace, ↓sub_BadNumber_NotPaper, ↓sub_BadNumber_BadNumber, ↓sub_BadNumber_NoAnswer, ↓sub_BadNumber_TooLarge, ↓sub_BadNumber_ValueError, ↓sub_NoAnswer_BelowError, ↓sub_NoAnswer_NotPoly, ↓sub_NoAnswer_NotTable, ↓sub_NoAnswer_NotPlace, ↓sub_NoAnswer_NotPaper, ↓sub_NoAnswer_BadNumber, ↓sub_NoAnswer_NoAnswer, ↓sub_NoAnswer_TooLarge, ↓sub_NoAnswer_ValueError, ↓sub_TooLarge_BelowError, ↓sub_TooLarge_NotPoly, ↓sub_TooLarge_NotTable, ↓sub_TooLarge_NotPlace, ↓sub_TooLarge_NotPaper, ↓sub_TooLarge_BadNumber, ↓sub_TooLarge_NoAnswer, ↓sub_TooLarge_TooLarge, ↓sub_TooLarge_ValueError, ↓con_int, ↓con_str, ↓con_bool, ↓con_tuple, ↓con_list, ↓con_dict, ↓con_BelowError, ↓con_NotPoly, ↓con_NotTable, ↓con_NotPlace, ↓con_NotPaper, ↓con_BadNumber, ↓con_NoAnswer, ↓con_TooLarge, ↓con_is_integer, ↓con_is_row, ↓con_are_pairs, ↓con_is_told_table, ↓con_is_told_poly, ↓con_FORMS, ↓con_has_form, ↓con_SMALL, ↓con_FIGURES, ↓con_words_of, ↓con_is_name, ↓con_number_in, ↓con__law_number, ↓con__law_draws, ↓con__law_next, ↓con__law_more, ↓con__law_pick, ↓con__law_kind, ↓con__law_line, ↓con__law_number_of, ↓con__law_is_row, ↓con__law_are_pairs, ↓con__law_due, ↓con__law_spoilt, ↓con_law, ↓call_c, inD_str])
local macro_rules | `(tactic| simp_arith [$ls:simpLemma,*]) => `(tactic| simp -dsimp only [Nat.reduceAdd, Nat.reduceSub, Nat.reduceLT, Nat.reduceLeDiff, Nat.reduceEqDiff, Nat.reduceBEq, Int.reduceEq, Int.reduceLT, Int.reduceLE, Int.reduceAdd, Int.reduceSub, Int.reduceMul, Int.reduceNeg, String.reduceEq, String.reduceBEq, ↓reduceIte, ↓W_ok, ↓W_ex, ↓W_st, W_ite, ↓FW_ok, ↓FW_ex, ↓FW_st, FW_ite, OK_some, OK_none, OK_itn, OK_map, OK_bind, BK_t, BK_f, BK_dec, BK_not, gK_frz, gK_lst, gK_dct, aK_val, aK_plc, vK_frz, vK_lst, vK_dct, pK_frz, pK_lst, pK_dct, pK_ins, pK_exc, KS_nx, KS_rt, KS_bk, KS_ct, KL_nx, KL_ct, KL_bk, KL_rt, ↓W_bind, ↓W_pure, ↓W_stuck, ↓W_opt, ↓W_iteM, ↓W_const, ↓dOf_W, ↓aOf_W, ↓tOf_W, ↓itOf_W, ↓one_W, ↓two_W, ↓many_W, ↓blM_W, ↓eA_mk, ↓eT_mk, ↓eW_mk, ↓eI_mk, ↓eA_ts, ↓eW_ts, ↓eD_W, frzO_frz, frzO_lst, frzO_dct, frzO_ins, frzO_exc, ↓eV_var, ↓eA_var, ↓eW_var, ↓eT_var, ↓eI_var, ↓eV_non, ↓eV_bl, ↓eV_int, ↓eV_str, ↓eV_glb, ↓eV_bin, ↓eV_neg, ↓eT_nt, ↓eV_nt, ↓eV_band, ↓eV_bor, ↓eT_band, ↓eT_bor, ↓eAnd_one, ↓eAnd_cons, ↓eOr_one, ↓eOr_cons, ↓eTs_nil, ↓eTs_and, ↓eTs_or, ↓eT_cmp, ↓eV_cmp, ↓eT_chn, ↓eV_chn, ↓eV_ife, ↓eAs_nil, ↓eAs_cons, ↓eDs_nil, ↓eDs_cons, ↓eSp_nil, ↓eSp_cons, ↓eSp_star, ↓eCs_nil, ↓eCs_cons, ↓eCs_nof, ↓eArg_lent, qK_frz, qK_lst, qK_dct, qK_exc, ↓eArg_var, ↓eArg_oth, gets_nil, gets_cons, ↓doCall_W, ↓eV_call, ↓eV_calle, getOs_nil, getOs_cons, getO_val, getO_plc, ↓eV_bi1, ↓eV_bi2, ↓eV_bi0, ↓eV_isi, ↓eI_range, ↓eI_zip, ↓eI_enum, ↓eI_rev, ↓eV_plain, mK_lst, ↓eV_mut, ↓eV_sub, oK_none, intK_int, oK_some, ↓eV_slc, ↓eV_rev, ↓eV_lst, ↓eV_tup, ↓eG_var, ↓eGs_nil, ↓eGs_cons, tK_tup, ↓eG_tup, ↓eG_sub, ↓xSs_nil, ↓xSs_cons, ↓xS_asg, ↓eVs_nil, ↓eVs_cons, ↓eGo_nil, ↓eGo_cons, ↓xS_asg2, ↓xS_retv, ↓xS_ret, ↓xS_retn, ↓xS_ifs, ↓xS_for, ↓forR_nil, ↓xS_brk, ↓xS_cnt, ↓xS_pas, ↓xS_expr, ↓xS_rais, ↓xS_try, ↓eIfs_nil, ↓eIfs_cons, ↓eV_lc, ↓lcR_nil, ofString_eq, ofString_beq, ↓isWalk_len, ↓isIsi_len, ↓isWalk_int, ↓isIsi_int, ↓isWalk_abs, ↓isIsi_abs, ↓isWalk_all, ↓isIsi_all, ↓isWalk_any, ↓isIsi_any, ↓isWalk_sum, ↓isIsi_sum, ↓isWalk_tuple, ↓isIsi_tuple, ↓isWalk_list, ↓isIsi_list, ↓isWalk_sorted, ↓isIsi_sorted, ↓isWalk_min, ↓isIsi_min, ↓isWalk_max, ↓isIsi_max, ↓isWalk_repr, ↓isIsi_repr, ↓isWalk_str, ↓isIsi_str, ↓isWalk_dict, ↓isIsi_dict, ↓isWalk_isinstance, ↓isIsi_isinstance, ↓biD_len, ↓biD_int, ↓biD_abs, ↓biD_all, ↓biD_any, ↓biD_sum, ↓biD_tuple, ↓biD_list, ↓biD_sorted, ↓biD_min, ↓biD_max, ↓biD_repr, ↓biD_str, ↓biD_dict, ↓isIv_index, ↓isMut_index, ↓isIv_count, ↓isMut_count, ↓isIv_get, ↓isMut_get, ↓isIv_join, ↓isMut_join, ↓isIv_split, ↓isMut_split, ↓isIv_startswith, ↓isMut_startswith, ↓isIv_endswith, ↓isMut_endswith, ↓isIv_append, ↓isMut_append, ↓isIv_extend, ↓isMut_extend, ↓isIv_reverse, ↓isMut_reverse, ↓isIv_pop, ↓isMut_pop, ↓isIv_insert, ↓isMut_insert, ↓isPl_index, ↓methD_index, ↓kindM_index_lst, ↓kindM_index_str, ↓isPl_count, ↓methD_count, ↓kindM_count_lst, ↓kindM_count_str, ↓isPl_get, ↓methD_get, ↓kindM_get_lst, ↓kindM_get_str, ↓isPl_join, ↓methD_join, ↓kindM_join_lst, ↓kindM_join_str, ↓isPl_split, ↓methD_split, ↓kindM_split_lst, ↓kindM_split_str, ↓isPl_startswith, ↓methD_startswith, ↓kindM_startswith_lst, ↓kindM_startswith_str, ↓isPl_endswith, ↓methD_endswith, ↓kindM_endswith_lst, ↓kindM_endswith_str, ↓mutD_append, ↓mutD_extend, ↓mutD_reverse, ↓mutD_pop, ↓mutD_insert, ↓bi_len_tup, ↓bi_len_lst, ↓bi_len_str, ↓bi_int_int, ↓bi_int_bl, ↓bi_int_str, ↓bi_abs_int, ↓bi_all_lst, ↓bi_any_lst, ↓bi_sum_lst, ↓bi_sum_tup, ↓bi_tuple_lst, ↓bi_tuple_tup, ↓bi_list_lst, ↓bi_list_tup, ↓bi_sorted_lst, ↓bi_sorted_tup, ↓bi_min_two, ↓bi_max_two, ↓bi_min_lst, ↓bi_max_lst, ↓bi_repr_one, ↓bi_str_int, ↓bi_str_str, ↓mt_index_lst, ↓mt_count_lst, ↓mt_join_lst, ↓mt_split_str, ↓mt_startswith_str, ↓mt_endswith_str, ↓mu_append_lst, ↓mu_extend_lst, ↓mu_reverse_lst, ↓mu_pop_lst, ↓mu_insert_lst, ↓binD_add, ↓binD_addb, ↓binD_adds, ↓binD_addt, ↓binD_addl, ↓binD_sub, ↓binD_mul, ↓binD_mull, ↓binD_fdv, ↓binD_mod, ↓binD_pow, ↓cmpD_eqs, ↓cmpD_nes, ↓cmpD_lt, ↓cmpD_lts, ↓cmpD_le, ↓cmpD_les, ↓cmpD_gt, ↓cmpD_ge, ↓cmpD_is, ↓cmpD_isn, ↓cmpD_isb, ↓cmpD_isnb, ↓cmpD_eqi, ↓cmpD_nei, ↓cmpD_in, ↓cmpD_nin, ↓subD_tup, ↓subD_lst, ↓subD_str, ↓slcD_tup, ↓slcD_lst, ↓slcD_str, ↓itemsD_tup, ↓itemsD_lst, ↓itemsD_str, ↓itemsD_scr, ↓revD_tup, ↓revD_lst, ↓negD_int, ↓tru_non, ↓tru_bl, ↓tru_int, ↓tru_str, ↓tru_tup, ↓tru_lst, ↓isNon_non, ↓isNon_bl, ↓isNon_int, ↓isNon_str, ↓isNon_tup, ↓isNon_lst, ↓isiD_non, ↓isiD_bl_int, ↓isiD_bl_bool, ↓isiD_bl_str, ↓isiD_bl_tuple, ↓isiD_bl_list, ↓isiD_bl_dict, ↓isiD_int_int, ↓isiD_int_bool, ↓isiD_int_str, ↓isiD_int_tuple, ↓isiD_int_list, ↓isiD_int_dict, ↓isiD_str_int, ↓isiD_str_bool, ↓isiD_str_str, ↓isiD_str_tuple, ↓isiD_str_list, ↓isiD_str_dict, ↓isiD_tup_int, ↓isiD_tup_bool, ↓isiD_tup_str, ↓isiD_tup_tuple, ↓isiD_tup_list, ↓isiD_tup_dict, ↓isiD_lst_int, ↓isiD_lst_bool, ↓isiD_lst_str, ↓isiD_lst_tuple, ↓isiD_lst_list, ↓isiD_lst_dict, ↓getO_zero, ↓getO_succ, ↓set_zero, ↓set_succ, ↓wipe_nil, ↓wipe_cons, ↓back_nil, ↓back_cons, ↓lb_lent, ↓lb_keep, ↓lb_val, ↓lb_nil, ↓lb_nof, ↓ol_nil, ↓ol_val, ↓ol_lent, ↓ol_exc, ↓tail_c, ↓tail_n, ↓plcs_nil, ↓plcs_val, ↓plcs_plc, ↓nodup_nil, ↓nodup_one, ↓outs_nil, ↓outs_frz, ↓outs_exc, ↓ownO_lst, ↓ownO_dct, ↓ownO_ins, ↓outs_lst, ↓outs_dct, ↓outs_ins, all_id, any_id, blsD_map, intsD_map, strsD_map, strsD_str, ↓isV_non, ↓isStar_non, ↓isMk_non, ↓isTs_non, ↓isTup2l_non, ↓isTup2r_non, ↓isV_bl, ↓isStar_bl, ↓isMk_bl, ↓isTs_bl, ↓isTup2l_bl, ↓isTup2r_bl, ↓isV_int, ↓isStar_int, ↓isMk_int, ↓isTs_int, ↓isTup2l_int, ↓isTup2r_int, ↓isV_str, ↓isStar_str, ↓isMk_str, ↓isTs_str, ↓isTup2l_str, ↓isTup2r_str, ↓isV_var, ↓isStar_var, ↓isMk_var, ↓isTs_var, ↓isTup2l_var, ↓isTup2r_var, ↓isV_glb, ↓isStar_glb, ↓isMk_glb, ↓isTs_glb, ↓isTup2l_glb, ↓isTup2r_glb, ↓isV_bin, ↓isStar_bin, ↓isMk_bin, ↓isTs_bin, ↓isTup2l_bin, ↓isTup2r_bin, ↓isV_neg, ↓isStar_neg, ↓isMk_neg, ↓isTs_neg, ↓isTup2l_neg, ↓isTup2r_neg, ↓isV_nt, ↓isStar_nt, ↓isMk_nt, ↓isTs_nt, ↓isTup2l_nt, ↓isTup2r_nt, ↓isV_band, ↓isStar_band, ↓isMk_band, ↓isTs_band, ↓isTup2l_band, ↓isTup2r_band, ↓isV_bor, ↓isStar_bor, ↓isMk_bor, ↓isTs_bor, ↓isTup2l_bor, ↓isTup2r_bor, ↓isV_cmp, ↓isStar_cmp, ↓isMk_cmp, ↓isTs_cmp, ↓isTup2l_cmp, ↓isTup2r_cmp, ↓isV_chn, ↓isStar_chn, ↓isMk_chn, ↓isTs_chn, ↓isTup2l_chn, ↓isTup2r_chn, ↓isV_chn3, ↓isStar_chn3, ↓isMk_chn3, ↓isTs_chn3, ↓isTup2l_chn3, ↓isTup2r_chn3, ↓isV_ife, ↓isStar_ife, ↓isMk_ife, ↓isTs_ife, ↓isTup2l_ife, ↓isTup2r_ife, ↓isV_call, ↓isStar_call, ↓isMk_call, ↓isTs_call, ↓isTup2l_call, ↓isTup2r_call, ↓isV_bi, ↓isStar_bi, ↓isMk_bi, ↓isTs_bi, ↓isTup2l_bi, ↓isTup2r_bi, ↓isV_calle, ↓isStar_calle, ↓isMk_calle, ↓isTs_calle, ↓isTup2l_calle, ↓isTup2r_calle, ↓isV_meth, ↓isStar_meth, ↓isMk_meth, ↓isTs_meth, ↓isTup2l_meth, ↓isTup2r_meth, ↓isV_attr, ↓isStar_attr, ↓isMk_attr, ↓isTs_attr, ↓isTup2l_attr, ↓isTup2r_attr, ↓isV_sub, ↓isStar_sub, ↓isMk_sub, ↓isTs_sub, ↓isTup2l_sub, ↓isTup2r_sub, ↓isV_slc, ↓isStar_slc, ↓isMk_slc, ↓isTs_slc, ↓isTup2l_slc, ↓isTup2r_slc, ↓isV_lst, ↓isStar_lst, ↓isMk_lst, ↓isTs_lst, ↓isTup2l_lst, ↓isTup2r_lst, ↓isV_tup, ↓isStar_tup, ↓isMk_tup, ↓isTs_tup, ↓isV_star, ↓isStar_star, ↓isMk_star, ↓isTs_star, ↓isTup2l_star, ↓isTup2r_star, ↓isV_dic, ↓isStar_dic, ↓isMk_dic, ↓isTs_dic, ↓isTup2l_dic, ↓isTup2r_dic, ↓isV_lc, ↓isStar_lc, ↓isMk_lc, ↓isTs_lc, ↓isTup2l_lc, ↓isTup2r_lc, ↓isV_lc2, ↓isStar_lc2, ↓isMk_lc2, ↓isTs_lc2, ↓isTup2l_lc2, ↓isTup2r_lc2, ↓isV_dc, ↓isStar_dc, ↓isMk_dc, ↓isTs_dc, ↓isTup2l_dc, ↓isTup2r_dc, ↓isWalk_range, ↓isWalk_zip, ↓isWalk_enumerate, ↓isWalk_reversed, ↓nd0, ↓nd1, ↓nd2, ↓nd3, ↓true_eq, ↓false_eq, ↓tf_eq, ↓ft_eq, ↓rep_zero, ↓rep_succ, not_t, not_f, band_t, band_f, and_tt, and_tr, and_fl, and_fr, imp_t, imp_f, imp_tt, n_t, n_f, dec_eq, dec_ne, bnot_eq, bnot_ne, band_eq, eq_self', mapc, mapn, appc, appn, lenc, lmap, lapp, lrange, cps_len, lenn, noExc_cons, noExc_nil, nx1_frz, nx1_lst, nx1_dct, nx1_ins, nx1_none, noExcR_nx, noExcR_frz, noExcR_lst, noExcR_dct, drs_len, drs_app, drs_snoc, drs_three, drs_rev, drs_empty, lim_eq, ↓le_is_integer, ↓ar_is_integer, ↓le_is_row, ↓ar_is_row, ↓le_are_pairs, ↓ar_are_pairs, ↓le_is_told_table, ↓ar_is_told_table, ↓le_is_told_poly, ↓ar_is_told_poly, ↓le_has_form, ↓ar_has_form, ↓le_words_of, ↓ar_words_of, ↓le_is_name, ↓ar_is_name, ↓le_number_in, ↓ar_number_in, ↓le__law_number, ↓ar__law_number, ↓le__law_draws, ↓ar__law_draws, ↓le__law_next, ↓ar__law_next, ↓le__law_more, ↓ar__law_more, ↓le__law_pick, ↓ar__law_pick, ↓le__law_kind, ↓ar__law_kind, ↓le__law_line, ↓ar__law_line, ↓le__law_number_of, ↓ar__law_number_of, ↓le__law_is_row, ↓ar__law_is_row, ↓le__law_are_pairs, ↓ar__law_are_pairs, ↓le__law_due, ↓ar__law_due, ↓le__law_spoilt, ↓ar__law_spoilt, ↓le_law, ↓ar_law, ↓cls_int, ↓cls_bool, ↓cls_str, ↓cls_tuple, ↓cls_list, ↓cls_dict, ↓cls_BelowError, ↓fld_BelowError, ↓cls_NotPoly, ↓fld_NotPoly, ↓cls_NotTable, ↓fld_NotTable, ↓cls_NotPlace, ↓fld_NotPlace, ↓cls_NotPaper, ↓fld_NotPaper, ↓cls_BadNumber, ↓fld_BadNumber, ↓cls_NoAnswer, ↓fld_NoAnswer, ↓cls_TooLarge, ↓fld_TooLarge, ↓sub_BelowError_BelowError, ↓sub_BelowError_NotPoly, ↓sub_BelowError_NotTable, ↓sub_BelowError_NotPlace, ↓sub_BelowError_NotPaper, ↓sub_BelowError_BadNumber, ↓sub_BelowError_NoAnswer, ↓sub_BelowError_TooLarge, ↓sub_BelowError_ValueError, ↓sub_NotPoly_BelowError, ↓sub_NotPoly_NotPoly, ↓sub_NotPoly_NotTable, ↓sub_NotPoly_NotPlace, ↓sub_NotPoly_NotPaper, ↓sub_NotPoly_BadNumber, ↓sub_NotPoly_NoAnswer, ↓sub_NotPoly_TooLarge, ↓sub_NotPoly_ValueError, ↓sub_NotTable_BelowError, ↓sub_NotTable_NotPoly, ↓sub_NotTable_NotTable, ↓sub_NotTable_NotPlace, ↓sub_NotTable_NotPaper, ↓sub_NotTable_BadNumber, ↓sub_NotTable_NoAnswer, ↓sub_NotTable_TooLarge, ↓sub_NotTable_ValueError, ↓sub_NotPlace_BelowError, ↓sub_NotPlace_NotPoly, ↓sub_NotPlace_NotTable, ↓sub_NotPlace_NotPlace, ↓sub_NotPlace_NotPaper, ↓sub_NotPlace_BadNumber, ↓sub_NotPlace_NoAnswer, ↓sub_NotPlace_TooLarge, ↓sub_NotPlace_ValueError, ↓sub_NotPaper_BelowError, ↓sub_NotPaper_NotPoly, ↓sub_NotPaper_NotTable, ↓sub_NotPaper_NotPlace, ↓sub_NotPaper_NotPaper, ↓sub_NotPaper_BadNumber, ↓sub_NotPaper_NoAnswer, ↓sub_NotPaper_TooLarge, ↓sub_NotPaper_ValueError, ↓sub_BadNumber_BelowError, ↓sub_BadNumber_NotPoly, ↓sub_BadNumber_NotTable, ↓sub_BadNumber_NotPlace, ↓sub_BadNumber_NotPaper, ↓sub_BadNumber_BadNumber, ↓sub_BadNumber_NoAnswer, ↓sub_BadNumber_TooLarge, ↓sub_BadNumber_ValueError, ↓sub_NoAnswer_BelowError, ↓sub_NoAnswer_NotPoly, ↓sub_NoAnswer_NotTable, ↓sub_NoAnswer_NotPlace, ↓sub_NoAnswer_NotPaper, ↓sub_NoAnswer_BadNumber, ↓sub_NoAnswer_NoAnswer, ↓sub_NoAnswer_TooLarge, ↓sub_NoAnswer_ValueError, ↓sub_TooLarge_BelowError, ↓sub_TooLarge_NotPoly, ↓sub_TooLarge_NotTable, ↓sub_TooLarge_NotPlace, ↓sub_TooLarge_NotPaper, ↓sub_TooLarge_BadNumber, ↓sub_TooLarge_NoAnswer, ↓sub_TooLarge_TooLarge, ↓sub_TooLarge_ValueError, ↓con_int, ↓con_str, ↓con_bool, ↓con_tuple, ↓con_list, ↓con_dict, ↓con_BelowError, ↓con_NotPoly, ↓con_NotTable, ↓con_NotPlace, ↓con_NotPaper, ↓con_BadNumber, ↓con_NoAnswer, ↓con_TooLarge, ↓con_is_integer, ↓con_is_row, ↓con_are_pairs, ↓con_is_told_table, ↓con_is_told_poly, ↓con_FORMS, ↓con_has_form, ↓con_SMALL, ↓con_FIGURES, ↓con_words_of, ↓con_is_name, ↓con_number_in, ↓con__law_number, ↓con__law_draws, ↓con__law_next, ↓con__law_more, ↓con__law_pick, ↓con__law_kind, ↓con__law_line, ↓con__law_number_of, ↓con__law_is_row, ↓con__law_are_pairs, ↓con__law_due, ↓con__law_spoilt, ↓con_law, ↓call_c, inD_str, $ls,*])
theorem k1 (m : Nat) : P.call (m + 1) "words_of" [.frz (.str "a b")] = .ok (.frz (.lst [.str "a", .str "b"])) [.frz (.str "a b")] := by kernel_rfl
theorem k2 (m : Nat) : P.call (m + 1) "is_name" [.frz (.str "abcdefghijkl")] = .ok (.frz (.bl true)) [.frz (.str "abcdefghijkl")] := by kernel_rfl
theorem k3 (m : Nat) : P.call (m + 1) "is_name" [.frz (.str "abcdefghijklm")] = .ok (.frz (.bl false)) [.frz (.str "abcdefghijklm")] := by kernel_rfl
theorem k4 (m : Nat) : P.call (m + 1) "number_in" [.frz (.str "07")] = .ok (.frz .non) [.frz (.str "07")] := by kernel_rfl
theorem k5 (m : Nat) : P.call (m + 1) "number_in" [.frz (.str "99")] = .ok (.frz (.int 99)) [.frz (.str "99")] := by kernel_rfl
theorem k6 : cmpD .ne (.lst [.lst [.str "a", .str "b"], .bl true, .bl false, .non, .int 99]) (.lst [.lst [.str "a", .str "b"], .bl true, .bl false, .non, .int 99]) = some false := by kernel_rfl
def joinQ (al : List D) (s : List D) : Prop := ∀ d ∈ s, d ∈ al
theorem strs_of {al : List Str} : ∀ {acc : List D}, (∀ d ∈ acc, d ∈ al.map D.str) → ∃ ys : List Str, acc = ys.map D.str ∧ ∀ y ∈ ys, y ∈ al
  | [], _ => ⟨[], rfl, fun _ h => nomatch h⟩
  | d :: r, h => by
    obtain ⟨ys, e, hy⟩ := strs_of (al := al) (acc := r) fun x hx => h x (by simp [hx])
    have := h d (by simp)
    rw [List.mem_map] at this
    obtain ⟨y, hy2, rfl⟩ := this
    exact ⟨y :: ys, by rw [e]; rfl, fun z hz => (List.mem_cons.mp hz).elim (fun e => e ▸ hy2) (hy z)⟩
theorem sum_le {B : Nat} : ∀ {ys : List Str}, (∀ y ∈ ys, y.length ≤ B) → (ys.map (·.length)).sum ≤ B * ys.length
  | [], _ => Nat.zero_le _
  | y :: ys, h => by
    have h1 := h y (by simp)
    have h2 := sum_le (ys := ys) fun z hz => h z (by simp [hz])
    rw [List.map_cons, List.sum_cons, List.length_cons, Nat.mul_add]; omega
theorem join0_len (ys : List Str) : (Txt.join "" ys).length = (ys.map (·.length)).sum := by
  have := congrArg List.length (join0 ys)
  rw [List.length_flatten, List.map_map] at this
  exact this
theorem szDs_str : ∀ ys : List Str, szDs (ys.map D.str) = (ys.map (·.length)).sum + ys.length
  | [] => rfl
  | y :: ys => by rw [List.map_cons, szDs, szDs_str ys, List.map_cons, List.sum_cons, List.length_cons, szD]; show y.length + 1 + _ = _; omega
theorem rOks_str {k : Nat} : ∀ {ys : List Str}, (∀ y ∈ ys, ∀ c ∈ y.cps.toList, c < 0x110000) → rOks k (ys.map D.str) = true
  | [], _ => rfl
  | y :: ys, h => by
    rw [List.map_cons, rOks, rOks_str fun z hz => h z (by simp [hz]), rOk, Array.all_eq_true_iff_forall_mem.mpr, Bool.true_and]
    intro c hc
    exact decide_eq_true (h y (by simp) c (Array.mem_toList_iff.mpr hc))
theorem depths_str : ∀ ys : List Str, D.depths (ys.map D.str) = 0
  | [] => rfl
  | y :: ys => by rw [List.map_cons, D.depths, depths_str ys]; rfl
theorem codes_str {z : Str} (h : ∀ c ∈ z.cps.toList, c < 0x110000) : rOk 1 (.str z) = true := by
  rw [rOk, Array.all_eq_true_iff_forall_mem]
  intro c hc
  exact decide_eq_true (h c (Array.mem_toList_iff.mpr hc))
theorem words_repr {z : Str} (hl : z.length ≤ 100) (hc : ∀ c ∈ z.cps.toList, c < 0x110000) : reprD (wordsF z) = some (.str (wordsF z).py.shown) := by
  have hw := PyProof.Rows.split_weight z " " (by decide +kernel)
  unfold wordsF
  split
  · exact reprD_ok 1 rfl (by decide) (by decide) (by decide)
  · refine reprD_ok 1 ?_ ?_ ?_ (by decide)
    · rw [rOk]; exact rOks_str fun y hy c h => hc c (split_codes hy h)
    · rw [D.depth, depths_str]; omega
    · rw [szD, szDs_str]; omega
theorem join_codes {al ys : List Str} (hal : ∀ y ∈ al, ∀ c ∈ y.cps.toList, c < 0x110000) (h : ∀ y ∈ ys, y ∈ al) : ∀ c ∈ (Txt.join "" ys).cps.toList, c < 0x110000 := by
  intro c hc
  rw [join0, List.mem_flatten] at hc
  obtain ⟨l, hl, hc⟩ := hc
  rw [List.mem_map] at hl
  obtain ⟨y, hy, rfl⟩ := hl
  exact hal y (h y hy) c hc
theorem join_alph {ys : List Str} (h : ∀ y ∈ ys, y ∈ (["a", "k", "z", "9", "0", "1", "", "", "B"] : List Str)) : ∀ c ∈ (Txt.join "" ys).cps.toList, c ∈ alph := by
  intro c hc
  rw [join0, List.mem_flatten] at hc
  obtain ⟨l, hl, hc⟩ := hc
  rw [List.mem_map] at hl
  obtain ⟨y, hy, rfl⟩ := hl
  exact (by decide +kernel : ∀ y ∈ (["a", "k", "z", "9", "0", "1", "", "", "B"] : List Str), ∀ c ∈ y.cps.toList, c ∈ alph) y (h y hy) c hc
theorem numV_ok (l : List Nat) : rOk 2 (numV l) = true ∧ (numV l).depth = 0 ∧ szD (numV l) = 0 := by
  unfold numV
  split
  · split
    · exact ⟨by rw [rOk, decide_eq_true_eq]; omega, rfl, rfl⟩
    · exact ⟨rfl, rfl, rfl⟩
  · split
    · exact ⟨by rw [rOk, decide_eq_true_eq]; omega, rfl, rfl⟩
    · exact ⟨rfl, rfl, rfl⟩
  · exact ⟨rfl, rfl, rfl⟩
theorem two_repr (b : Bool) {d : D} (h1 : rOk 2 d = true) (h2 : d.depth = 0) (h3 : szD d = 0) : reprD (.lst [.bl b, d]) = some (.str (D.lst [.bl b, d]).py.shown) :=
  reprD_ok 2 (by simp [rOk, rOks, h1]) (by simp [D.depth, D.depths, h2]) (by simp [szD, szDs, h3]) (by decide)
theorem e0len : (Str.ofString "").length = 0 := by decide +kernel
abbrev al1 : List Str := ["a", "b", " ", "0", "7", "~", "!", "(", "A", "\t", "-", "z", "  "]
abbrev al2 : List Str := ["a", "k", "z", "9", "0", "1", "", "", "B"]
theorem kc (a b j2 j3 j4 j5 : Option O) : lcR (P.cxt (P.call 19)) [4]
      (E.bi (Str.ofString "repr") [E.call (Str.ofString "number_in") [E.var 4 (Str.ofString "word") p0] p0 p0] p0 p0)
      (E.var 4 (Str.ofString "word") p0) []
      [D.str (Str.ofString ""), D.str (Str.ofString "0"), D.str (Str.ofString "00"), D.str (Str.ofString "100"),
        D.str (Str.ofString "-1"), D.str (Str.ofString "5"), D.str (Str.ofString "+5"), D.str (Str.ofString " 5"),
        D.str (Str.ofString "5 ")]
      []
      [a, b, j2, j3, j4, j5, none, none, none, none, none, none, none, none] = .ok (.lst [.str "None", .str "0", .str "None", .str "None", .str "None", .str "5", .str "None", .str "None", .str "None"]) [a, b, j2, j3, none, j5, none, none, none, none, none, none, none, none] := by kernel_rfl
theorem k7 : cmpD .ne (.lst [.str "None", .str "0", .str "None", .str "None", .str "None", .str "5", .str "None", .str "None", .str "None"]) (.lst [.str "None", .str "0", .str "None", .str "None", .str "None", .str "5", .str "None", .str "None", .str "None"]) = some false := by kernel_rfl
theorem k8 (m : Nat) : P.call (m + 1) "has_form" [.frz (.str ""), .frz (.tup [])] = .ex ⟨"BadNumber", none⟩ [.frz (.str ""), .frz (.tup [])] := by kernel_rfl
theorem k9 (m : Nat) : P.call (m + 1) "has_form" [.frz (.str "Form"), .frz (.tup [])] = .ex ⟨"BadNumber", none⟩ [.frz (.str "Form"), .frz (.tup [])] := by kernel_rfl
theorem k10 (m : Nat) : P.call (m + 1) "has_form" [.frz (.str "term"), .frz (.tup [])] = .ex ⟨"BadNumber", none⟩ [.frz (.str "term"), .frz (.tup [])] := by kernel_rfl
theorem k11 (m : Nat) : P.call (m + 1) "_law_kind" [.exc "BadNumber" none] = .ok (.frz (.str "!number")) [.exc "BadNumber" none] := by kernel_rfl
def terms : List D := [.tup [.tup [.tup [.int 0, .int 2], .tup [.int 1, .int 1]], .tup [.tup [.int 2, .int 0], .tup [.int 1]]], .tup [.tup [.int 1, .int 1], .tup [.int 2, .int 1]], .tup [.tup [.tup [.int 1]], .tup [.tup [.int 2]]], .tup [.int 0, .int 1, .int 1], .tup [.tup [], .tup [.tup [.int 1]]]]
theorem terms_sp : ∀ d ∈ terms, sp 3 3 d = true := by decide +kernel
theorem law_ok (ns : List Int) (hn : ns.length ≤ 63) : FW (P.call 20 "law" [.frz (.scr ns)]) (fun r _ => r = .frz (.bl true)) (fun _ _ => False) := by
  refine call_W (by omega) lk_law rfl fun m hm => ?_
  obtain rfl : m = 18 + 1 := by omega
  simp only [P_k21.f_law]
  simp_arith
  refine FW_mono (draws (by omega) L_law_number L_law_draws hn) ?_ (fun _ _ h => h.elim)
  rintro _ _ ⟨ms, rfl, rfl, hd, hl⟩
  simp_arith
  refine FW_mono (more (k := 200) (by omega) L_law_next L_law_more hd (by omega) (by omega)) ?_ (fun _ _ h => h.elim)
  rintro _ _ ⟨ms2, ns2, rfl, rfl, hd2, hd3, hl2⟩
  simp_arith [k1, k2, k3, k4, k5, k6, rng1 (n := 6) (by omega) (by omega)]
  refine forT _ _ (fun dn s => ∃ (ms : List Int) (j2 j3 j4 j5 : Option O), s = [some (.frz (.scr ns)), some (.lst (drs ms)), j2, j3, j4, j5, none, none, none, none, none, none, none, none] ∧ Dr ms ∧ nx1 j2 = true ∧ nx1 j3 = true ∧ nx1 j4 = true ∧ nx1 j5 = true) ?_ ?_ ?_
  · exact ⟨ms2, none, none, none, none, rfl, hd2, rfl, rfl, rfl, rfl⟩
  · rintro dn x rs _ e ⟨ms, j2, j3, j4, j5, rfl, hd, hj2, hj3, hj4, hj5⟩
    simp_arith
    refine FW_mono (next (by omega) L_law_next hd) ?_ (fun _ _ h => h.elim)
    rintro _ _ ⟨a, ms3, rfl, rfl, h3, h4, hd3, _⟩
    have f1 := fmod_nn (i := a) (j := 9) (by omega)
    simp_arith [rng1 (n := a.fmod 9) (by omega) (by omega)]
    refine ⟨by omega, lcI _ _ (fun dn acc s => ∃ (ms : List Int), s = [some (.frz (.scr ns)), some (.lst (drs ms)), some (.frz (.int x)), j3, j4, j5, none, none, none, none, none, none, none, none] ∧ Dr ms ∧ acc.length = dn.length ∧ ∀ d ∈ acc, d ∈ al1.map D.str) ?_ ?_ ?_⟩
    · exact ⟨ms3, rfl, hd3, rfl, fun _ h => nomatch h⟩
    · rintro dn y rs acc _ e ⟨ms4, rfl, hd4, hlen, hall⟩
      simp_arith
      refine FW_mono (pick (xs := al1.map D.str) (by omega) L_law_next L_law_pick hd4 (List.cons_ne_nil _ _)) ?_ (fun _ _ h => h.elim)
      rintro _ _ ⟨z, ms5, rfl, hz, rfl, hd5, _⟩
      simp_arith
      refine ⟨ms5, rfl, hd5, by omega, fun d hd => ?_⟩
      rcases List.mem_append.mp hd with hd | hd
      · exact hall d hd
      · rw [List.mem_singleton] at hd; subst hd; exact hz
    · rintro acc _ ⟨ms4, rfl, hd4, hlen, hall⟩
      obtain ⟨ys, rfl, hys⟩ := strs_of hall
      have hb : ∀ y ∈ ys, y.length ≤ 2 := fun y hy => (by decide +kernel : ∀ y ∈ al1, y.length ≤ 2) y (hys y hy)
      have hs := sum_le hb
      have hz : (Txt.join "" ys).length ≤ 100 := by rw [join0_len]; simp only [List.length_map, List.length_range] at hlen; omega
      have hc := join_codes (al := al1) (by decide +kernel) hys
      have hw : ∀ w ∈ Txt.split (Txt.join "" ys) " ", w.length ≤ 100 := fun w h => Nat.le_trans (PyProof.Rows.part_short h) hz
      have hl : ys.length ≤ 9 := by simp only [List.length_map, List.length_range] at hlen; omega
      simp_arith [e0len, Nat.mul_zero, words_of 19 (by omega) _ hz hw, law_line 19 (by omega) _ hz hw, words_repr hz hc]
      refine ⟨by omega, FW_mono (next (by omega) L_law_next hd4) ?_ (fun _ _ h => h.elim)⟩
      rintro _ _ ⟨a, ms3, rfl, rfl, h3, h4, hd3, _⟩
      have f1 := fmod_nn (i := a) (j := 15) (by omega)
      generalize Txt.join "" ys = z
      simp_arith [rng1 (n := a.fmod 15) (by omega) (by omega)]
      refine ⟨by omega, lcI _ _ (fun dn acc s => ∃ (ms : List Int), s = [some (.frz (.scr ns)), some (.lst (drs ms)), some (.frz (.int x)), some (.frz (.str z)), j4, j5, none, none, none, none, none, none, none, none] ∧ Dr ms ∧ acc.length = dn.length ∧ ∀ d ∈ acc, d ∈ al2.map D.str) ?_ ?_ ?_⟩
      · exact ⟨ms3, rfl, hd3, rfl, fun _ h => nomatch h⟩
      · rintro dn y rs acc _ e ⟨ms4, rfl, hd4, hlen, hall⟩
        simp_arith
        refine FW_mono (pick (xs := al2.map D.str) (by omega) L_law_next L_law_pick hd4 (List.cons_ne_nil _ _)) ?_ (fun _ _ h => h.elim)
        rintro _ _ ⟨z, ms5, rfl, hz, rfl, hd5, _⟩
        simp_arith
        refine ⟨ms5, rfl, hd5, by omega, fun d hd => ?_⟩
        rcases List.mem_append.mp hd with hd | hd
        · exact hall d hd
        · rw [List.mem_singleton] at hd; subst hd; exact hz
      · rintro acc _ ⟨ms4, rfl, hd4, hlen, hall⟩
        obtain ⟨ys, rfl, hys⟩ := strs_of hall
        have hb : ∀ y ∈ ys, y.length ≤ 1 := fun y hy => (by decide +kernel : ∀ y ∈ al2, y.length ≤ 1) y (hys y hy)
        have hs := sum_le hb
        have hl : ys.length ≤ 15 := by simp only [List.length_map, List.length_range] at hlen; omega
        have hz : (Txt.join "" ys).length ≤ 100 := by rw [join0_len]; omega
        have hc : ∀ c ∈ (Txt.join "" ys).cps.toList, c ∈ alph := join_alph hys
        have hsum : (ys.map (·.length)).sum + 0 ≤ 16000000 := by omega
        have F1 := is_name 19 (by omega) (Txt.join "" ys) hz
        have F2 := number_in 19 (by omega) (Txt.join "" ys) hc
        have F3 := number_of 19 (by omega) (Txt.join "" ys) hc
        have hn := numV_ok (Txt.join "" ys).cps.toList
        have F4 : ∀ b, reprD (.lst [.bl b, numV (Txt.join "" ys).cps.toList]) = some (.str (D.lst [.bl b, numV (Txt.join "" ys).cps.toList]).py.shown) := fun b => two_repr b hn.1 hn.2.1 hn.2.2
        have hj : ∀ w, w = Txt.join "" ys → smallF w = smallF (Txt.join "" ys) := fun w h => by rw [h]
        by_cases c1 : 1 ≤ (Txt.join "" ys).length
        · by_cases c2 : (Txt.join "" ys).length ≤ 12
          · have d1 : 1 ≤ ((Txt.join "" ys).length : Int) := by omega
            have d2 : ((Txt.join "" ys).length : Int) ≤ 12 := by omega
            have hs : smallF (Txt.join "" ys) = (Txt.join "" ys).cps.toList.all (fun c => hasS "abcdefghijklmnopqrstuvwxyz" ⟨#[c]⟩) := by rw [smallF, if_pos ⟨c1, c2⟩]
            simp_arith [e0len, Nat.mul_zero, hsum, d1, d2]
            refine ⟨by omega, lcM1 _ _ (fun c => .bl (hasS "abcdefghijklmnopqrstuvwxyz" ⟨#[c]⟩)) (fun c hc => ?_) ?_⟩
            · simp_arith [inD_str]
            · simp_arith [F1, F2, F3, F4, hs]
              exact ⟨ms4, _, _, _, _, rfl, hd4, rfl, rfl, rfl, rfl⟩
          · have d1 : 1 ≤ ((Txt.join "" ys).length : Int) := by omega
            have d2 : ¬ ((Txt.join "" ys).length : Int) ≤ 12 := by omega
            have hs : smallF (Txt.join "" ys) = false := by rw [smallF, if_neg (by omega)]
            simp_arith [e0len, Nat.mul_zero, hsum, d1, d2, F1, F2, F3, F4, hs, decide_false]
            exact ⟨ms4, _, _, _, _, rfl, hd4, rfl, rfl, rfl, rfl⟩
        · have d1 : ¬ 1 ≤ ((Txt.join "" ys).length : Int) := by omega
          have hs : smallF (Txt.join "" ys) = false := by rw [smallF, if_neg (by omega)]
          simp_arith [e0len, Nat.mul_zero, hsum, d1, F1, F2, F3, F4, hs, decide_false]
          exact ⟨ms4, _, _, _, _, rfl, hd4, rfl, rfl, rfl, rfl⟩
  · rintro _ ⟨ms, j2, j3, j4, j5, rfl, hd, hj2, hj3, hj4, hj5⟩
    simp_arith [kc, k7, rng1 (n := 12) (by omega) (by omega)]
    refine ⟨by decide, lcI _ _ (fun dn acc s => ∃ (ms : List Int) (o : O), s = [some (.frz (.scr ns)), some (.lst (drs ms)), none, j3, j4, j5, some o, none, none, none, none, none, none, none] ∧ (o = .lst terms ∨ o = .frz (.lst terms)) ∧ Dr ms ∧ acc.length = dn.length ∧ ∀ d ∈ acc, sp 7 5 d = true) ?_ ?_ ?_⟩
    · exact ⟨ms, _, rfl, .inl rfl, hd, rfl, fun _ h => nomatch h⟩
    · rintro dn y rs acc _ e ⟨ms4, o, rfl, ho, hd4, hlen, hall⟩
      rcases ho with rfl | rfl
      · simp_arith
        refine FW_mono (pick (xs := terms) (by omega) L_law_next L_law_pick hd4 (List.cons_ne_nil _ _)) ?_ (fun _ _ h => h.elim)
        rintro _ _ ⟨z, ms5, rfl, hz, rfl, hd5, _⟩
        simp_arith
        refine FW_mono (spoilt (L := 3) (by omega) (by omega) 3 19 (by omega) (by omega) ms5 z hd5 (terms_sp z hz)) ?_ (fun _ _ h => h.elim)
        rintro _ _ ⟨y, ms6, rfl, hy, rfl, hd6⟩
        simp_arith
        refine ⟨ms6, _, rfl, .inr rfl, hd6, by omega, fun d hd => ?_⟩
        rcases List.mem_append.mp hd with hd | hd
        · exact hall d hd
        · rw [List.mem_singleton] at hd; subst hd; exact hy
      · simp_arith
        refine FW_mono (pick (xs := terms) (by omega) L_law_next L_law_pick hd4 (List.cons_ne_nil _ _)) ?_ (fun _ _ h => h.elim)
        rintro _ _ ⟨z, ms5, rfl, hz, rfl, hd5, _⟩
        simp_arith
        refine FW_mono (spoilt (L := 3) (by omega) (by omega) 3 19 (by omega) (by omega) ms5 z hd5 (terms_sp z hz)) ?_ (fun _ _ h => h.elim)
        rintro _ _ ⟨y, ms6, rfl, hy, rfl, hd6⟩
        simp_arith
        refine ⟨ms6, _, rfl, .inr rfl, hd6, by omega, fun d hd => ?_⟩
        rcases List.mem_append.mp hd with hd | hd
        · exact hall d hd
        · rw [List.mem_singleton] at hd; subst hd; exact hy
    · rintro acc _ ⟨ms4, o, rfl, ho, hd4, hlen, hall⟩
      have hg : ∀ K, gK (some o) K = K (.lst terms) := fun K => by
        rcases ho with rfl | rfl
        · rw [gK_lst]
        · rw [gK_frz]
      simp_arith [hg]
      have ht : terms.length = 5 := by decide
      have hl2 : acc.length = 12 := by rw [hlen, List.length_range]; decide
      refine ⟨by omega, by omega, forD (fun dn s => ∃ j7 j8 : Option O, s = [some (.frz (.scr ns)), some (.lst (drs ms4)), j2, j3, j4, j5, some o, j7, j8, none, none, none, none, none] ∧ nx1 j7 = true ∧ nx1 j8 = true) ⟨none, none, rfl, rfl, rfl⟩ ?_ ?_⟩
      · rintro dn d rs _ e ⟨j7, j8, rfl, hj7, hj8⟩
        have hm : d ∈ terms ++ acc ++ [D.tup [], D.non, D.str "", D.int 0] := by rw [e]; simp
        have hsp : sp 7 5 d = true := by
          rcases List.mem_append.mp hm with hm | hm
          · rcases List.mem_append.mp hm with hm | hm
            · exact sp_mono (by omega) (by omega) (terms_sp d hm)
            · exact hall d hm
          · exact (by decide +kernel : ∀ d ∈ [D.tup [], D.non, D.str "", D.int 0], sp 7 5 d = true) d hm
        have ok := (sp_ok (by omega) hsp).1
        have A := has_form 19 (by omega) d ok
        have B := law_due 19 (by omega) d ok
        have ne : cmpD .ne (.lst [.bl (isPoly d), .bl (arePairs d), .bl (isTable d), .bl (isRow d)]) (.lst [.bl (isPoly d), .bl (arePairs d), .bl (isTable d), .bl (isRow d)]) = some false := ne_self (by rfl)
        simp_arith [lcR_cons, A.1, A.2.1, A.2.2.1, A.2.2.2, B.1, B.2.1, B.2.2.1, B.2.2.2, ne]
        exact ⟨_, _, rfl, rfl, rfl⟩
      · rintro _ ⟨j7, j8, rfl, hj7, hj8⟩
        have ho2 : nx1 (some o) = true := by rcases ho with rfl | rfl <;> rfl
        simp_arith [forR_cons, k8, k9, k10, k11, hj2, hj3, hj4, hj5, hj7, hj8, ho2]
end Z.Y.N21
end

section
set_option Elab.async false
set_option linter.all false
namespace Z.Y.N21
open PySem
theorem fw_true {r : FR} (h : FW r (fun r _ => r = .frz (.bl true)) (fun _ _ => False)) : ∃ outs, r = .ok (.frz (.bl true)) outs := by
  cases r with
  | ok a s => rw [FW_ok] at h; subst h; exact ⟨s, rfl⟩
  | ex _ _ => rw [FW_ex] at h; exact h.elim
  | st => rw [FW_st] at h; exact h.elim
theorem hF (ns : List Int) (h : ns.length ≤ 63) : ∃ outs, K21.prog.call 20 "law" [.frz (.scr ns)] = .ok (.frz (.bl true)) outs := by
  rw [K21.call_Pg]
  exact fw_true (law_ok ns h)
end Z.Y.N21
end
theorem PySem.Challenge.cw_neverbelow_k21_lines_and_forms_holds : PySem.Challenge.rw_neverbelow_k21_lines_and_forms.Holds := by
  exact K21.holds_of Z.Y.N21.hF
