import PyProof.Rows.All
import Wide.All
import OpenK.AllK
import Wide.FinOn
import HandS.ForMost
import HandS.Deep
import HandS.TupAny
import HandS.TupMul
import HandS.Wide
import HandS.WideBits
import HandS.Replace
import HandS.Strs
import HandS.IsInst
import HandS.Zip
import HandS.SortInts
import HandS.Codes
import HandS.Style
import KE.KTupSum
import KE.GoesEnum
import PySem.Challenge.RW_stairpay_k03_whole_rows
set_option Elab.async false
set_option linter.all false
set_option maxRecDepth 100000
/-! Rv, part 0: a small language (E, S), what it is worth (evE, evS), over plain data. No program in sight. -/
namespace Rv
open PySem

/-- dicts with text keys, by number -/
abbrev Sto := List (List (Str × PyData))
inductive Vl where
  | dat (d : PyData)
  | dic (k : Nat)
/-- ok; an own exception (its class, the one thing it is made of); nothing is said -/
inductive Res (α : Type) where
  | ok (a : α)
  | exc (c : Str) (d : PyData) (st : Sto)
  | bad
namespace Res
def bind {α β : Type} (x : Res α) (f : α → Res β) : Res β := match x with
  | .ok a => f a
  | .exc c d st => .exc c d st
  | .bad => .bad
def ofO {α : Type} : Option α → Res α
  | some a => .ok a
  | none => .bad
theorem bind_ok {α β : Type} {x : Res α} {f : α → Res β} {b : β} (h : x.bind f = .ok b) : ∃ a, x = .ok a ∧ f a = .ok b := by
  cases x with
  | ok a => exact ⟨a, rfl, h⟩
  | exc c d st => cases h
  | bad => cases h
theorem ofO_ok {α : Type} {x : Option α} {a : α} (h : ofO x = .ok a) : x = some a := by
  cases x with
  | none => cases h
  | some b => cases h; rfl
end Res

inductive Slot where
  | val (v : Vl)
  /-- a list that this def alone holds, and may change -/
  | own (l : List PyData)
abbrev En := List (Option Slot)

/-- targets -/
inductive G where
  | nm (i : Nat)
  | tp (g : G)
  | nil
  | cons (a r : G)

inductive E where
  | var (i : Nat)
  | glb (x : Str)
  | cint (i : Int) | cstr (x : Str) | cbl (b : Bool) | cnon
  | bin (op : Operator) (a b : E)
  | neg (a : E)
  | nt (a : E)
  | andd (es : E) | orr (es : E)
  | cmp (op : CmpOp) (a b : E)
  | chn (o1 o2 : CmpOp) (a b c : E)
  | ite (c a b : E)
  | tup (es : E) | lst (es : E)
  | nil | cons (a r : E)
  | idx (a i : E)
  /-- a[lo:hi]; nil: left out -/
  | slc (a lo hi : E)
  | call (f : Str) (es : E)
  | bif (f : Str) (es : E)
  | mth (m : Str) (o : E) (es : E)
  | isi (a : E) (t : String)
  | lc (elt : E) (own : List (Str × Nat)) (tg : G) (it : E) (ifs : E)
  /-- what is walked: range, enumerate, zip -/
  | rng1 (a : E) | rng2 (a b : E) | enm (a : E) | zp (a b : E) | itr (a : E)
  | dget (i : Nat) (k : Str)
  | dnew (ks : List Str) (es : E)

inductive S where
  | nil
  | seq (a r : S)
  | asg (g : G) (e : E)
  /-- name = a new list that is owned -/
  | asgO (i : Nat) (e : E)
  /-- a, b = x, y (names), b owned where told -/
  | par (i j : Nat) (oi oj : Bool) (a b : E)
  | par3 (i j k : Nat) (oi oj ok : Bool) (a b c : E)
  | aug (i : Nat) (op : Operator) (e : E)
  | app (i : Nat) (e : E)
  | ext (i : Nat) (e : E)
  | sit (i : Nat) (k e : E)
  | aug2 (i : Nat) (k : E) (op : Operator) (e : E)
  | dput (i : Nat) (k : Str) (e : E)
  | exp (e : E)
  | iff (c : E) (a b : S)
  | forr (g : G) (it : E) (b : S)
  | whl (c : E) (b : S)
  | ret (e : E)
  | retN
  | brk
  | pass
  | raise (c : Str) (e : E)

/-! ### values -/
abbrev line : Nat := 16777216
def fitI (i : Int) : Bool := decide (i.natAbs < 2 ^ 400)
def txt (x : Str) : List Nat := x.cps.toList
def sgn (c : Nat) : PyData := .str ⟨#[c]⟩

def ints? : List PyData → Option (List Int)
  | [] => some []
  | .int i :: r => (ints? r).map (i :: ·)
  | _ :: _ => none
def strs? : List PyData → Option (List Str)
  | [] => some []
  | .str i :: r => (strs? r).map (i :: ·)
  | _ :: _ => none
def bools? : List PyData → Option (List Bool)
  | [] => some []
  | .bool i :: r => (bools? r).map (i :: ·)
  | _ :: _ => none

def binD : Operator → PyData → PyData → Option PyData
  | .Add, .int i, .int j => some (.int (i + j))
  | .Add, .str i, .str j => if i.length + j.length ≤ line then some (.str (i ++ j)) else none
  | .Add, .tuple i, .tuple j => if i.length + j.length ≤ line then some (.tuple (i ++ j)) else none
  | .Add, .list i, .list j => if i.length + j.length ≤ line then some (.list (i ++ j)) else none
  | .Sub, .int i, .int j => some (.int (i - j))
  | .Mult, .int i, .int j => if fitI i && fitI j then some (.int (i * j)) else none
  | .Mult, .list i, .int j => if -(2 ^ 63) ≤ j ∧ j < 1000 ∧ i.length ≤ 1000 then some (.list (List.replicate j.toNat i).flatten) else none
  | .Mult, .tuple i, .int j => if 1 ≤ j ∧ j ≤ 1000 ∧ i.length ≤ 1000 ∧ i ≠ [] then some (.tuple (List.replicate j.toNat i).flatten) else none
  | .Mod, .int i, .int j => if 0 < j then some (.int (i % j)) else none
  | .FloorDiv, .int i, .int j => if 0 < j && fitI j then some (.int (i / j)) else none
  | .Pow, .int i, .int j => if 0 ≤ j ∧ j ≤ 1000 ∧ i.natAbs < 2 ^ 64 then some (.int (i ^ j.toNat)) else none
  | _, _, _ => none

def isNone : PyData → Bool
  | .none => true
  | _ => false
def flat : PyData → Bool
  | .none | .bool _ | .int _ | .str _ => true
  | _ => false

/-- may be compared: two texts, or things that can be laid -/
def eqOk : PyData → PyData → Bool
  | .str _, .str _ => true
  | x, y => SeqAt.shaped x && SeqAt.shaped y
def cmpD : CmpOp → PyData → PyData → Option Bool
  | .Lt, .int i, .int j => some (decide (i < j))
  | .LtE, .int i, .int j => some (decide (i ≤ j))
  | .Gt, .int i, .int j => some (decide (j < i))
  | .GtE, .int i, .int j => some (decide (j ≤ i))
  | .Lt, .str i, .str j => some (decide (txt i < txt j))
  | .Is, x, .none => some (isNone x)
  | .IsNot, x, .none => some (!isNone x)
  | .Is, .bool x, .bool y => some (decide (x = y))
  | .IsNot, .bool x, .bool y => some (!decide (x = y))
  | .In, .str x, .str y => if (txt x).length = 1 then some (decide ((txt x).getD 0 0 ∈ txt y)) else none
  | .NotIn, .str x, .str y => if (txt x).length = 1 then some (!decide ((txt x).getD 0 0 ∈ txt y)) else none
  | .In, x, .tuple l => if flat x && l.all flat then some (l.any fun y => PyData.eqv y x) else none
  | .NotIn, x, .tuple l => if flat x && l.all flat then some (!l.any fun y => PyData.eqv y x) else none
  | .In, x, .list l => if SeqAt.shaped x && SeqAt.shaped (.list l) then some (l.any fun y => PyData.eqv y x) else none
  | .NotIn, x, .list l => if SeqAt.shaped x && SeqAt.shaped (.list l) then some (!l.any fun y => PyData.eqv y x) else none
  | .Eq, x, y => if eqOk x y then some (PyData.eqv x y) else none
  | .NotEq, x, y => if eqOk x y then some (!PyData.eqv x y) else none
  | _, _, _ => none

def cutD {α : Type} (xs : List α) (lo hi : Option Int) : List α := (xs.drop (HT.sIx xs.length 0 lo)).take (HT.sIx xs.length xs.length hi - HT.sIx xs.length 0 lo)
def sliceD (x : PyData) (lo hi : Option Int) : Option PyData := match x with
  | .list l => some (.list (cutD l lo hi))
  | .tuple l => some (.tuple (cutD l lo hi))
  | .str z => if z.length ≤ line then some (.str ⟨(cutD (txt z) lo hi).toArray⟩) else none
  | _ => none
def idxD : PyData → PyData → Option PyData
  | .list l, .int i => L2.atI l i
  | .tuple l, .int i => L2.atI l i
  | .str z, .int i => if z.length ≤ line then (L2.atI (txt z) i).map sgn else none
  | _, _ => none
/-- a slice's end: a number, or left out -/
def endD : List PyData → Option (Option Int)
  | [] => some none
  | [.int i] => some (some i)
  | _ => none

def isort : List Int → List Int
  | [] => []
  | x :: r => ins x (isort r)
where ins (x : Int) : List Int → List Int
  | [] => [x]
  | y :: r => if x ≤ y then x :: y :: r else y :: ins x r
def maxI (x : Int) (l : List Int) : Int := l.foldl max x
def minI (x : Int) (l : List Int) : Int := l.foldl min x

def lenD : List PyData → Option PyData
  | [.list l] => some (.int l.length)
  | [.tuple l] => some (.int l.length)
  | [.str z] => if z.length ≤ line then some (.int z.length) else none
  | _ => none
def intD : List PyData → Option PyData
  | [.int i] => some (.int i)
  | [.bool b] => some (.int (if b then 1 else 0))
  | _ => none
def minL : List Int → Option PyData
  | x :: r => some (.int (minI x r))
  | [] => none
def maxL : List Int → Option PyData
  | x :: r => some (.int (maxI x r))
  | [] => none
def minD : List PyData → Option PyData
  | [.int i, .int j] => some (.int (if j < i then j else i))
  | [.list l] => (ints? l).bind minL
  | _ => none
def maxD : List PyData → Option PyData
  | [.int i, .int j] => some (.int (if j > i then j else i))
  | [.list l] => (ints? l).bind maxL
  | _ => none
def sumD : List PyData → Option PyData
  | [.list l] => (ints? l).map fun ns => .int ns.sum
  | [.tuple l] => (ints? l).map fun ns => .int ns.sum
  | _ => none
def sortedD : List PyData → Option PyData
  | [.list l] => (ints? l).map fun ns => .list ((isort ns).map PyData.int)
  | _ => none
def allD : List PyData → Option PyData
  | [.list l] => (bools? l).map fun bs => .bool (bs.all id)
  | _ => none
def anyD : List PyData → Option PyData
  | [.list l] => (bools? l).map fun bs => .bool (bs.any id)
  | _ => none
def tupleD : List PyData → Option PyData
  | [.list l] => some (.tuple l)
  | [.tuple l] => some (.tuple l)
  | _ => none
def listD : List PyData → Option PyData
  | [.list l] => some (.list l)
  | [.tuple l] => some (.list l)
  | _ => none
def divmodD : List PyData → Option PyData
  | [.int i, .int j] => if 0 < j && fitI j then some (.tuple [.int (i / j), .int (i % j)]) else none
  | _ => none
def reprD : List PyData → Option PyData
  | [d] => if d.showable && !d.hasDict && decide (d.depth ≤ 50) && decide (d.shown.length ≤ line) then some (.str d.shown) else none
  | _ => none
def bifD (f : Str) (xs : List PyData) : Option PyData :=
  if f = "len" then lenD xs else if f = "int" then intD xs else if f = "min" then minD xs else if f = "max" then maxD xs else if f = "sum" then sumD xs
  else if f = "sorted" then sortedD xs else if f = "all" then allD xs else if f = "any" then anyD xs else if f = "tuple" then tupleD xs else if f = "list" then listD xs
  else if f = "divmod" then divmodD xs else if f = "repr" then reprD xs else none

def firstAt (p : PyData → Bool) : List PyData → Nat → Option Nat
  | [], _ => none
  | x :: r, k => if p x then some k else firstAt p r (k + 1)

def countD : PyData → List PyData → Option PyData
  | .str z, [.str y] => if (txt y).length = 1 then some (.int ((txt z).count ((txt y).getD 0 0) : Nat)) else none
  | .list l, [y] => if flat y && l.all flat then some (.int (l.countP (fun z => PyData.eqv z y) : Nat)) else none
  | _, _ => none
def indexD : PyData → List PyData → Option PyData
  | .str z, [.str y] => if (txt y).length = 1 ∧ (txt y).getD 0 0 ∈ txt z then some (.int ((txt z).idxOf ((txt y).getD 0 0) : Nat)) else none
  | .list l, [y] => if flat y && l.all flat then (firstAt (fun z => PyData.eqv z y) l 0).map fun k => .int (k : Nat) else none
  | .tuple l, [.str y] => (strs? l).bind fun ss => if y ∈ ss then some (.int (ss.idxOf y : Nat)) else none
  | _, _ => none
def joinD : PyData → List PyData → Option PyData
  | .str z, [.list l] => (strs? l).bind fun ss => if z.length = 0 ∧ (ss.map (·.length)).sum ≤ line then some (.str ⟨(ss.flatMap txt).toArray⟩) else none
  | _, _ => none
def mthD (m : Str) (o : PyData) (xs : List PyData) : Option PyData :=
  if m = "count" then countD o xs else if m = "index" then indexD o xs else if m = "join" then joinD o xs else none

def isiD (x : PyData) (t : String) : Option Bool := match x with
  | .none => if t = "int" ∨ t = "bool" ∨ t = "str" ∨ t = "tuple" ∨ t = "list" then some false else none
  | .bool _ => if t = "int" ∨ t = "bool" then some true else if t = "str" ∨ t = "tuple" ∨ t = "list" then some false else none
  | .int _ => if t = "int" then some true else if t = "bool" ∨ t = "str" ∨ t = "tuple" ∨ t = "list" then some false else none
  | .str _ => if t = "str" then some true else if t = "int" ∨ t = "bool" ∨ t = "tuple" ∨ t = "list" then some false else none
  | .tuple _ => if t = "tuple" then some true else if t = "int" ∨ t = "bool" ∨ t = "str" ∨ t = "list" then some false else none
  | .list _ => if t = "list" then some true else if t = "int" ∨ t = "bool" ∨ t = "str" ∨ t = "tuple" then some false else none
  | .dict _ => none

def itemsD : PyData → Option (List PyData)
  | .list l => some l
  | .tuple l => some l
  | .str z => some ((txt z).map sgn)
  | _ => none
def upto (a : Int) : Nat → List PyData
  | 0 => []
  | n + 1 => .int a :: upto (a + 1) n
def fit62 (i : Int) : Bool := decide (-(2 ^ 62) ≤ i ∧ i < 2 ^ 62)
def enumD : Nat → List PyData → List PyData
  | _, [] => []
  | k, x :: r => .tuple [.int (k : Nat), x] :: enumD (k + 1) r
def zipD : List PyData → List PyData → List PyData
  | x :: r, y :: q => .tuple [x, y] :: zipD r q
  | _, _ => []

/-! ### names -/
def getS (en : En) (i : Nat) : Option Slot := (en[i]?).join
def bindG : G → PyData → En → Option En
  | .nm i, x, en => if i < en.length then some (en.set i (some (.val (.dat x)))) else none
  | .tp g, .tuple l, en => bindGs g l en
  | _, _, _ => none
where bindGs : G → List PyData → En → Option En
  | .nil, [], en => some en
  | .cons a r, x :: l, en => match bindG a x en with
    | some en' => bindGs r l en'
    | none => none
  | _, _, _ => none
def wipeE (en : En) : List Nat → En
  | [] => en
  | v :: vs => (wipeE en vs).set v none
def isOwn (en : En) : E → Bool
  | .var i => match getS en i with
    | some (.own _) => true
    | _ => false
  | _ => false

def dGet (st : Sto) (k : Nat) (x : Str) : Option PyData := match st[k]? with
  | some kvs => (kvs.find? fun p => p.1 == x).map (·.2)
  | none => none
def putK (x : Str) (d : PyData) : List (Str × PyData) → List (Str × PyData)
  | [] => [(x, d)]
  | p :: r => if p.1 = x then (x, d) :: r else p :: putK x d r

def dats : List Vl → Option (List PyData)
  | [] => some []
  | .dat d :: r => (dats r).map (d :: ·)
  | .dic _ :: _ => none

/-- the turns of a comprehension -/
def lcRun (f : PyData → Sto → Res (Option PyData × Sto)) : List PyData → Sto → Res (List PyData × Sto)
  | [], st => .ok ([], st)
  | x :: r, st => (f x st).bind fun (y, st1) => (lcRun f r st1).bind fun (ys, st2) => .ok ((match y with | some d => d :: ys | none => ys), st2)

/-- a datum -/
def toD (r : Res (Vl × Sto)) : Res (PyData × Sto) := r.bind fun (v, st1) => match v with
  | .dat d => .ok (d, st1)
  | .dic _ => .bad
/-- a truth value -/
def toB (r : Res (Vl × Sto)) : Res (Bool × Sto) := r.bind fun (v, st1) => match v with
  | .dat (.bool b) => .ok (b, st1)
  | _ => .bad
section
variable (F : Str → List Vl → Sto → Res (Vl × Sto)) (Gl : Str → Option PyData)
mutual
def evE : E → En → Sto → Res (Vl × Sto)
  | .var i, en, st => match getS en i with
    | some (.val v) => .ok (v, st)
    | some (.own l) => .ok (.dat (.list l), st)
    | none => .bad
  | .glb x, _, st => match Gl x with
    | some d => .ok (.dat d, st)
    | none => .bad
  | .cint i, _, st => .ok (.dat (.int i), st)
  | .cstr x, _, st => .ok (.dat (.str x), st)
  | .cbl b, _, st => .ok (.dat (.bool b), st)
  | .cnon, _, st => .ok (.dat .none, st)
  | .bin op a b, en, st => (toD (evE a en st)).bind fun (x, st1) => (toD (evE b en st1)).bind fun (y, st2) => match binD op x y with
    | some z => .ok (.dat z, st2)
    | none => .bad
  | .neg a, en, st => (toD (evE a en st)).bind fun (x, st1) => match x with
    | .int i => .ok (.dat (.int (-i)), st1)
    | _ => .bad
  | .nt a, en, st => (toB (evE a en st)).bind fun (b, st1) => .ok (.dat (.bool (!b)), st1)
  | .andd es, en, st => evAnd es en st
  | .orr es, en, st => evOr es en st
  | .cmp op a b, en, st => (toD (evE a en st)).bind fun (x, st1) => (toD (evE b en st1)).bind fun (y, st2) => match cmpD op x y with
    | some z => .ok (.dat (.bool z), st2)
    | none => .bad
  | .chn o1 o2 a b c, en, st => (toD (evE a en st)).bind fun (x, st1) => (toD (evE b en st1)).bind fun (y, st2) => match cmpD o1 x y with
    | some true => (toD (evE c en st2)).bind fun (z, st3) => match cmpD o2 y z with
      | some w => .ok (.dat (.bool w), st3)
      | none => .bad
    | some false => .ok (.dat (.bool false), st2)
    | none => .bad
  | .ite c a b, en, st => (toB (evE c en st)).bind fun (t, st1) => if isOwn en a || isOwn en b then .bad else if t then evE a en st1 else evE b en st1
  | .tup es, en, st => (evL es en st).bind fun (xs, st1) => match dats xs with
    | some ds => if ds.length ≤ line then .ok (.dat (.tuple ds), st1) else .bad
    | none => .bad
  | .lst es, en, st => (evL es en st).bind fun (xs, st1) => match dats xs with
    | some ds => if ds.length ≤ line then .ok (.dat (.list ds), st1) else .bad
    | none => .bad
  | .nil, _, _ => .bad
  | .cons _ _, _, _ => .bad
  | .idx a i, en, st => (toD (evE a en st)).bind fun (x, st1) => (toD (evE i en st1)).bind fun (y, st2) => match idxD x y with
    | some z => .ok (.dat z, st2)
    | none => .bad
  | .slc a lo hi, en, st => (toD (evE a en st)).bind fun (x, st1) => (evO lo en st1).bind fun (l, st2) => (evO hi en st2).bind fun (h, st3) => match sliceD x l h with
    | some z => .ok (.dat z, st3)
    | none => .bad
  | .call f es, en, st => (evL es en st).bind fun (xs, st1) => F f xs st1
  | .bif f es, en, st => (evR es en st).bind fun (xs, st1) => match bifD f xs with
    | some z => .ok (.dat z, st1)
    | none => .bad
  | .mth m o es, en, st => (toD (evE o en st)).bind fun (x, st1) => (evR es en st1).bind fun (xs, st2) => match mthD m x xs with
    | some z => .ok (.dat z, st2)
    | none => .bad
  | .isi a t, en, st => (toD (evE a en st)).bind fun (x, st1) => match isiD x t with
    | some b => .ok (.dat (.bool b), st1)
    | none => .bad
  | .lc elt own tg it ifs, en, st => (evI it en st).bind fun (xs, st1) =>
      (lcRun (fun x st' => match bindG tg x (wipeE en (own.map (·.2))) with
        | some en' => (evTs ifs en' st').bind fun (b, st2) => if b then (if isOwn en' elt then .bad else (toD (evE elt en' st2)).bind fun (y, st3) => .ok (some y, st3)) else .ok (none, st2)
        | none => .bad) xs st1).bind fun (ys, st2) => if ys.length ≤ line then .ok (.dat (.list ys), st2) else .bad
  | .rng1 _, _, _ => .bad
  | .rng2 _ _, _, _ => .bad
  | .enm _, _, _ => .bad
  | .zp _ _, _, _ => .bad
  | .itr _, _, _ => .bad
  | .dget i k, en, st => match getS en i with
    | some (.val (.dic n)) => match dGet st n k with
      | some d => .ok (.dat d, st)
      | none => .bad
    | _ => .bad
  | .dnew ks es, en, st => (evL es en (st ++ [[]])).bind fun (xs, st1) => match dats xs, st1[st.length]? with
    | some ds, some [] => if ks.length = ds.length ∧ ks.Nodup ∧ ks.length ≤ 15 then .ok (.dic st.length, st1.set st.length (ks.zip ds)) else .bad
    | _, _ => .bad
/-- arguments that are kept -/
def evL : E → En → Sto → Res (List Vl × Sto)
  | .nil, _, st => .ok ([], st)
  | .cons a r, en, st => if isOwn en a then .bad else (evE a en st).bind fun (x, st1) => (evL r en st1).bind fun (xs, st2) => .ok (x :: xs, st2)
  | _, _, _ => .bad
/-- arguments that are read -/
def evR : E → En → Sto → Res (List PyData × Sto)
  | .nil, _, st => .ok ([], st)
  | .cons a r, en, st => (toD (evE a en st)).bind fun (x, st1) => (evR r en st1).bind fun (xs, st2) => .ok (x :: xs, st2)
  | _, _, _ => .bad
def evAnd : E → En → Sto → Res (Vl × Sto)
  | .cons a .nil, en, st => if isOwn en a then .bad else evE a en st
  | .cons a r, en, st => (toB (evE a en st)).bind fun (b, st1) => if b then evAnd r en st1 else .ok (.dat (.bool false), st1)
  | _, _, _ => .bad
def evOr : E → En → Sto → Res (Vl × Sto)
  | .cons a .nil, en, st => if isOwn en a then .bad else evE a en st
  | .cons a r, en, st => (toB (evE a en st)).bind fun (b, st1) => if b then .ok (.dat (.bool true), st1) else evOr r en st1
  | _, _, _ => .bad
/-- an optional end of a slice -/
def evO : E → En → Sto → Res (Option Int × Sto)
  | .nil, _, st => .ok (none, st)
  | .cons a .nil, en, st => (toD (evE a en st)).bind fun (x, st1) => match x with
    | .int i => .ok (some i, st1)
    | _ => .bad
  | _, _, _ => .bad
/-- the tests of a comprehension: none or one -/
def evTs : E → En → Sto → Res (Bool × Sto)
  | .nil, _, st => .ok (true, st)
  | .cons a .nil, en, st => toB (evE a en st)
  | _, _, _ => .bad
/-- what is walked -/
def evI : E → En → Sto → Res (List PyData × Sto)
  | .rng1 a, en, st => (toD (evE a en st)).bind fun (x, st1) => match x with
    | .int j => if fit62 j then .ok (upto 0 j.toNat, st1) else .bad
    | _ => .bad
  | .rng2 a b, en, st => (toD (evE a en st)).bind fun (x, st1) => (toD (evE b en st1)).bind fun (y, st2) => match x, y with
    | .int i, .int j => if fit62 i && fit62 j then .ok (upto i (j - i).toNat, st2) else .bad
    | _, _ => .bad
  | .enm a, en, st => if isOwn en a then .bad else (toD (evE a en st)).bind fun (x, st1) => match x with
    | .list l => .ok (enumD 0 l, st1)
    | .tuple l => .ok (enumD 0 l, st1)
    | _ => .bad
  | .zp a b, en, st => if isOwn en a || isOwn en b then .bad else (toD (evE a en st)).bind fun (x, st1) => (toD (evE b en st1)).bind fun (y, st2) => match x, y with
    | .list l, .list m => .ok (zipD l m, st2)
    | .tuple l, .tuple m => .ok (zipD l m, st2)
    | .tuple l, .list m => .ok (zipD l m, st2)
    | .list l, .tuple m => .ok (zipD l m, st2)
    | _, _ => .bad
  | .itr a, en, st => if isOwn en a then .bad else (toD (evE a en st)).bind fun (x, st1) => match itemsD x with
    | some l => .ok (l, st1)
    | none => .bad
  | _, _, _ => .bad
termination_by structural e => e
end
end

inductive Out where
  | next (en : En) (st : Sto)
  | ret (v : Vl) (st : Sto)
  | brk (en : En) (st : Sto)

def forRun (f : PyData → En → Sto → Res Out) : List PyData → En → Sto → Res Out
  | [], en, st => .ok (.next en st)
  | x :: r, en, st => (f x en st).bind fun o => match o with
    | .next en1 st1 => forRun f r en1 st1
    | .ret v st1 => .ok (.ret v st1)
    | .brk en1 st1 => .ok (.next en1 st1)
def whRun (c : En → Sto → Res (Bool × Sto)) (f : En → Sto → Res Out) : Nat → En → Sto → Res Out
  | 0, _, _ => .bad
  | n + 1, en, st => (c en st).bind fun (b, st1) => if b then (f en st1).bind fun o => match o with
      | .next en1 st2 => whRun c f n en1 st2
      | .ret v st2 => .ok (.ret v st2)
      | .brk en1 st2 => .ok (.next en1 st2)
    else .ok (.next en st1)
def frzS : Option Slot → Option Slot
  | some (.own l) => some (.val (.dat (.list l)))
  | s => s
def frz (en : En) : En := en.map frzS
/-- a new list that a name may own: what is written, a comprehension, a list times a number, list(..) -/
def fresh : E → Bool
  | .lst _ => true
  | .lc .. => true
  | .bin .Mult (.lst _) _ => true
  | .bif f _ => f == "list"
  | _ => false
def putS (en : En) (i : Nat) (s : Slot) : Option En := if i < en.length then some (en.set i (some s)) else none
/-- what a name gets: owned, or kept -/
def asSlot (o : Bool) (v : Vl) : Option Slot := match o, v with
  | false, v => some (.val v)
  | true, .dat (.list l) => some (.own l)
  | true, _ => none

section
variable (F : Str → List Vl → Sto → Res (Vl × Sto)) (Gl : Str → Option PyData) (wf : Nat)
/-- a value that a name gets -/
def evA (o : Bool) (e : E) (en : En) (st : Sto) : Res (Slot × Sto) := if isOwn en e then .bad else (evE F Gl e en st).bind fun (v, st1) => (Res.ofO (asSlot o v)).bind fun s => .ok (s, st1)
def evS : S → En → Sto → Res Out
  | .nil, en, st => .ok (.next en st)
  | .seq a r, en, st => (evS a en st).bind fun o => match o with
    | .next en1 st1 => evS r en1 st1
    | .ret v st1 => .ok (.ret v st1)
    | .brk en1 st1 => .ok (.brk en1 st1)
  | .asg (.nm i) e, en, st => (evA F Gl false e en st).bind fun (s, st1) => (Res.ofO (putS en i s)).bind fun en1 => .ok (.next en1 st1)
  | .asg g e, en, st => if isOwn en e then .bad else (toD (evE F Gl e en st)).bind fun (x, st1) => (Res.ofO (bindG g x en)).bind fun en1 => .ok (.next en1 st1)
  | .asgO i e, en, st => (evA F Gl true e en st).bind fun (s, st1) => (Res.ofO (putS en i s)).bind fun en1 => .ok (.next en1 st1)
  | .par i j oi oj a b, en, st => (evA F Gl oi a en st).bind fun (s, st1) => (evA F Gl oj b en st1).bind fun (s', st2) =>
      (Res.ofO (putS en i s)).bind fun en1 => (Res.ofO (putS en1 j s')).bind fun en2 => .ok (.next en2 st2)
  | .par3 i j k oi oj ok a b c, en, st => (evA F Gl oi a en st).bind fun (s, st1) => (evA F Gl oj b en st1).bind fun (s', st2) => (evA F Gl ok c en st2).bind fun (s'', st3) =>
      (Res.ofO (putS en i s)).bind fun en1 => (Res.ofO (putS en1 j s')).bind fun en2 => (Res.ofO (putS en2 k s'')).bind fun en3 => .ok (.next en3 st3)
  | .aug i op e, en, st => match getS en i with
    | some (.val (.dat (.int x))) => (toD (evE F Gl e en st)).bind fun (y, st1) => match op, y with
      | .Add, .int y => (Res.ofO (putS en i (.val (.dat (.int (x + y)))))).bind fun en1 => .ok (.next en1 st1)
      | .Sub, .int y => (Res.ofO (putS en i (.val (.dat (.int (x - y)))))).bind fun en1 => .ok (.next en1 st1)
      | _, _ => .bad
    | _ => .bad
  | .app i e, en, st => match getS en i with
    | some (.own l) => if isOwn en e then .bad else (toD (evE F Gl e en st)).bind fun (y, st1) => if l.length < line then .ok (.next (en.set i (some (.own (l ++ [y])))) st1) else .bad
    | _ => .bad
  | .ext i e, en, st => match getS en i with
    | some (.own l) => if isOwn en e then .bad else (toD (evE F Gl e en st)).bind fun (y, st1) => match y with
      | .list m => if l.length + m.length ≤ line then .ok (.next (en.set i (some (.own (l ++ m)))) st1) else .bad
      | _ => .bad
    | _ => .bad
  | .sit i k e, en, st => match getS en i with
    | some (.own l) => if isOwn en e then .bad else (toD (evE F Gl e en st)).bind fun (y, st1) => (toD (evE F Gl k en st1)).bind fun (x, st2) => match x with
      | .int n => if 0 ≤ n ∧ n < l.length then .ok (.next (en.set i (some (.own (l.set n.toNat y)))) st2) else .bad
      | _ => .bad
    | _ => .bad
  | .aug2 i k op e, en, st => match getS en i with
    | some (.own l) => (toD (evE F Gl k en st)).bind fun (x, st1) => (toD (evE F Gl e en st1)).bind fun (y, st2) => match op, x, y with
      | .Add, .int n, .int y => if 0 ≤ n ∧ n < l.length then match l[n.toNat]? with
          | some (.int z) => .ok (.next (en.set i (some (.own (l.set n.toNat (.int (z + y)))))) st2)
          | _ => .bad
        else .bad
      | _, _, _ => .bad
    | _ => .bad
  | .dput i k e, en, st => match getS en i with
    | some (.val (.dic n)) => if isOwn en e then .bad else (toD (evE F Gl e en st)).bind fun (y, st1) => match st1[n]? with
      | some kvs => if kvs.length < 1000 then .ok (.next en (st1.set n (putK k y kvs))) else .bad
      | none => .bad
    | _ => .bad
  | .exp e, en, st => (evE F Gl e en st).bind fun (_, st1) => .ok (.next en st1)
  | .iff c a b, en, st => (toB (evE F Gl c en st)).bind fun (t, st1) => if t then evS a en st1 else evS b en st1
  | .forr g it b, en, st => (evI F Gl it en st).bind fun (xs, st1) => forRun (fun x en' st' => (Res.ofO (bindG g x en')).bind fun en2 => evS b en2 st') xs en st1
  | .whl c b, en, st => whRun (fun en' st' => toB (evE F Gl c en' st')) (fun en' st' => evS b en' st') wf en st
  | .ret e, en, st => (evE F Gl e (frz en) st).bind fun (v, st1) => .ok (.ret v st1)
  | .retN, _, st => .ok (.ret (.dat .none) st)
  | .brk, en, st => .ok (.brk en st)
  | .pass, en, st => .ok (.next en st)
  | .raise c e, en, st => (toD (evE F Gl e (frz en) st)).bind fun (d, st1) => .exc c d st1
end

structure Fn where
  np : Nat
  ns : Nat
  body : S
def begin_ (fn : Fn) (xs : List Vl) : En := xs.map (fun v => some (.val v)) ++ List.replicate (fn.ns - xs.length) none
def runF (tbl : List (Str × Fn)) (Gl : Str → Option PyData) (wf : Nat) : Nat → Str → List Vl → Sto → Res (Vl × Sto)
  | 0, _, _, _ => .bad
  | n + 1, f, xs, st => match tbl.lookup f with
    | some fn => if xs.length = fn.np ∧ fn.np ≤ fn.ns then (evS (runF tbl Gl wf n) Gl wf fn.body (begin_ fn xs) st).bind fun o => match o with
        | .ret v st1 => .ok (v, st1)
        | .next _ st1 => .ok (.dat .none, st1)
        | .brk _ _ => .bad
      else .bad
    | none => .bad
end Rv

set_option maxRecDepth 100000
namespace Rv
open PySem
/-- is_whole(thing, least, most); slots 0 thing 1 least 2 most -/
def ir_is_whole : S :=
  (.seq (.ret (.andd (.cons (.isi (.var 0) "int") (.cons (.nt (.isi (.var 0) "bool")) (.cons (.chn .LtE .LtE (.var 1) (.var 0) (.var 2)) .nil)))))
  .nil)
def fn_is_whole : Fn := ⟨3, 3, ir_is_whole⟩
/-- is_word(thing); slots 0 thing 1 sign -/
def ir_is_word : S :=
  (.seq (.ret (.andd (.cons (.isi (.var 0) "str") (.cons (.chn .LtE .LtE (.cint 1) (.bif "len" (.cons (.var 0) .nil)) (.glb "MOST_SIGNS")) (.cons (.bif "all" (.cons (.lc (.cmp .In (.var 1) (.glb "LETTERS")) [("sign", 1)] (.nm 1) (.itr (.var 0)) .nil) .nil)) .nil)))))
  .nil)
def fn_is_word : Fn := ⟨1, 2, ir_is_word⟩
/-- are_names(thing); slots 0 thing 1 one 2 other -/
def ir_are_names : S :=
  (.seq (.iff (.orr (.cons (.nt (.isi (.var 0) "tuple")) (.cons (.nt (.chn .LtE .LtE (.cint 1) (.bif "len" (.cons (.var 0) .nil)) (.glb "MOST_NAMES"))) (.cons (.nt (.bif "all" (.cons (.lc (.call "is_word" (.cons (.var 1) .nil)) [("one", 1)] (.nm 1) (.itr (.var 0)) .nil) .nil))) .nil))))
  (.seq (.ret (.cbl false))
  .nil)
  .nil)
  (.seq (.ret (.bif "all" (.cons (.lc (.cmp .Lt (.var 1) (.var 2)) [("one", 1), ("other", 2)] (.tp (.cons (.nm 1) (.cons (.nm 2) .nil))) (.zp (.var 0) (.slc (.var 0) (.cons (.cint 1) .nil) .nil)) .nil) .nil)))
  .nil))
def fn_are_names : Fn := ⟨1, 3, ir_are_names⟩
/-- are_figures(many, thing); slots 0 many 1 thing 2 sign -/
def ir_are_figures : S :=
  (.seq (.iff (.orr (.cons (.nt (.isi (.var 1) "str")) (.cons (.nt (.chn .LtE .LtE (.cint 1) (.bif "len" (.cons (.var 1) .nil)) (.glb "MOST_FIGURES"))) .nil)))
  (.seq (.ret (.cbl false))
  .nil)
  .nil)
  (.seq (.ret (.bif "all" (.cons (.lc (.cmp .In (.var 2) (.slc (.glb "DIGITS") .nil (.cons (.var 0) .nil))) [("sign", 2)] (.nm 2) (.itr (.var 1)) .nil) .nil)))
  .nil))
def fn_are_figures : Fn := ⟨2, 3, ir_are_figures⟩
/-- is_run(many, thing, is_last); slots 0 many 1 thing 2 is_last -/
def ir_is_run : S :=
  (.seq (.iff (.orr (.cons (.nt (.isi (.var 1) "tuple")) (.cons (.cmp .NotEq (.bif "len" (.cons (.var 1) .nil)) (.cint 2)) (.cons (.nt (.call "are_figures" (.cons (.var 0) (.cons (.idx (.var 1) (.cint 1)) .nil)))) .nil))))
  (.seq (.ret (.cbl false))
  .nil)
  .nil)
  (.seq (.ret (.ite (.var 2) (.cmp .Is (.idx (.var 1) (.cint 0)) .cnon) (.call "is_whole" (.cons (.idx (.var 1) (.cint 0)) (.cons (.cint 1) (.cons (.glb "MOST_COINS") .nil))))))
  .nil))
def fn_is_run : Fn := ⟨3, 3, ir_is_run⟩
/-- need_deal(thing); slots 0 thing 1 names 2 runs 3 number 4 run -/
def ir_need_deal : S :=
  (.seq (.iff (.orr (.cons (.nt (.isi (.var 0) "tuple")) (.cons (.cmp .NotEq (.bif "len" (.cons (.var 0) .nil)) (.cint 2)) .nil)))
  (.seq (.raise "BadDeal" (.cstr "form"))
  .nil)
  .nil)
  (.seq (.asg (.tp (.cons (.nm 1) (.cons (.nm 2) .nil))) (.var 0))
  (.seq (.iff (.nt (.call "are_names" (.cons (.var 1) .nil)))
  (.seq (.raise "BadDeal" (.cstr "names"))
  .nil)
  .nil)
  (.seq (.iff (.orr (.cons (.nt (.isi (.var 2) "tuple")) (.cons (.nt (.chn .LtE .LtE (.cint 1) (.bif "len" (.cons (.var 2) .nil)) (.glb "MOST_RUNS"))) .nil)))
  (.seq (.raise "BadDeal" (.cstr "runs"))
  .nil)
  .nil)
  (.seq (.forr (.tp (.cons (.nm 3) (.cons (.nm 4) .nil))) (.enm (.var 2))
  (.seq (.iff (.nt (.call "is_run" (.cons (.bif "len" (.cons (.var 1) .nil)) (.cons (.var 4) (.cons (.cmp .Eq (.var 3) (.bin .Sub (.bif "len" (.cons (.var 2) .nil)) (.cint 1))) .nil)))))
  (.seq (.raise "BadDeal" (.var 3))
  .nil)
  .nil)
  .nil))
  (.seq (.ret (.var 0))
  .nil))))))
def fn_need_deal : Fn := ⟨1, 5, ir_need_deal⟩
/-- need_number(thing); slots 0 thing -/
def ir_need_number : S :=
  (.seq (.iff (.nt (.call "is_whole" (.cons (.var 0) (.cons (.cint 0) (.cons (.glb "MOST_NUMBER") .nil)))))
  (.seq (.raise "BadNumber" (.var 0))
  .nil)
  .nil)
  (.seq (.ret (.var 0))
  .nil))
def fn_need_number : Fn := ⟨1, 1, ir_need_number⟩
/-- count_in(figures, figure, coins); slots 0 figures 1 figure 2 coins 3 turns 4 rest -/
def ir_count_in : S :=
  (.seq (.asg (.tp (.cons (.nm 3) (.cons (.nm 4) .nil))) (.bif "divmod" (.cons (.var 2) (.cons (.bif "len" (.cons (.var 0) .nil)) .nil))))
  (.seq (.ret (.bin .Add (.bin .Mult (.var 3) (.mth "count" (.var 0) (.cons (.var 1) .nil))) (.mth "count" (.slc (.var 0) .nil (.cons (.var 4) .nil)) (.cons (.var 1) .nil))))
  .nil))
def fn_count_in : Fn := ⟨3, 5, ir_count_in⟩
/-- parts_of(runs, coins); slots 0 runs 1 coins 2 found 3 left 4 size 5 figures 6 part -/
def ir_parts_of : S :=
  (.seq (.par 2 3 true false (.lst .nil) (.var 1))
  (.seq (.forr (.tp (.cons (.nm 4) (.cons (.nm 5) .nil))) (.itr (.var 0))
  (.seq (.asg (.nm 6) (.ite (.cmp .Is (.var 4) .cnon) (.var 3) (.bif "min" (.cons (.var 3) (.cons (.var 4) .nil)))))
  (.seq (.app 2 (.var 6))
  (.seq (.aug 3 .Sub (.var 6))
  .nil))))
  (.seq (.ret (.var 2))
  .nil)))
def fn_parts_of : Fn := ⟨2, 7, ir_parts_of⟩
/-- count_by(runs, figure, coins); slots 0 runs 1 figure 2 coins 3 parts 4 run 5 part -/
def ir_count_by : S :=
  (.seq (.asg (.nm 3) (.call "parts_of" (.cons (.var 0) (.cons (.var 2) .nil))))
  (.seq (.ret (.bif "sum" (.cons (.lc (.call "count_in" (.cons (.idx (.var 4) (.cint 1)) (.cons (.var 1) (.cons (.var 5) .nil)))) [("run", 4), ("part", 5)] (.tp (.cons (.nm 4) (.cons (.nm 5) .nil))) (.zp (.var 0) (.var 3)) .nil) .nil)))
  .nil))
def fn_count_by : Fn := ⟨3, 6, ir_count_by⟩
/-- has_in(deal, coins); slots 0 deal 1 coins 2 names 3 runs 4 number -/
def ir_has_in : S :=
  (.seq (.asg (.tp (.cons (.nm 2) (.cons (.nm 3) .nil))) (.var 0))
  (.seq (.ret (.bif "tuple" (.cons (.lc (.call "count_by" (.cons (.var 3) (.cons (.idx (.glb "DIGITS") (.var 4)) (.cons (.var 1) .nil)))) [("number", 4)] (.nm 4) (.rng1 (.bif "len" (.cons (.var 2) .nil))) .nil) .nil)))
  .nil))
def fn_has_in : Fn := ⟨2, 5, ir_has_in⟩
/-- place_in(runs, coin); slots 0 runs 1 coin 2 left 3 number 4 size 5 figures -/
def ir_place_in : S :=
  (.seq (.asg (.nm 2) (.var 1))
  (.seq (.forr (.tp (.cons (.nm 3) (.cons (.tp (.cons (.nm 4) (.cons (.nm 5) .nil))) .nil))) (.enm (.var 0))
  (.seq (.iff (.orr (.cons (.cmp .Is (.var 4) .cnon) (.cons (.cmp .Lt (.var 2) (.var 4)) .nil)))
  (.seq (.ret (.tup (.cons (.var 3) (.cons (.var 2) .nil))))
  .nil)
  .nil)
  (.seq (.aug 2 .Sub (.var 4))
  .nil)))
  (.seq (.ret .cnon)
  .nil)))
def fn_place_in : Fn := ⟨2, 6, ir_place_in⟩
/-- name_in(deal, coin); slots 0 deal 1 coin 2 figures 3 names 4 runs 5 number 6 left -/
def ir_name_in : S :=
  (.seq (.asg (.tp (.cons (.nm 3) (.cons (.nm 4) .nil))) (.var 0))
  (.seq (.asg (.tp (.cons (.nm 5) (.cons (.nm 6) .nil))) (.call "place_in" (.cons (.var 4) (.cons (.var 1) .nil))))
  (.seq (.asg (.nm 2) (.idx (.idx (.var 4) (.var 5)) (.cint 1)))
  (.seq (.ret (.idx (.var 3) (.mth "index" (.glb "DIGITS") (.cons (.idx (.var 2) (.bin .Mod (.bif "int" (.cons (.var 6) .nil)) (.bif "len" (.cons (.var 2) .nil)))) .nil))))
  .nil))))
def fn_name_in : Fn := ⟨2, 7, ir_name_in⟩
/-- name_at(deal, coin); slots 0 deal 1 coin -/
def ir_name_at : S :=
  (.seq (.exp (.call "need_deal" (.cons (.var 0) .nil)))
  (.seq (.ret (.call "name_in" (.cons (.var 0) (.cons (.call "need_number" (.cons (.var 1) .nil)) .nil))))
  .nil))
def fn_name_at : Fn := ⟨2, 2, ir_name_at⟩
/-- row_part(deal, begin, size); slots 0 deal 1 begin 2 size 3 place -/
def ir_row_part : S :=
  (.seq (.exp (.call "need_deal" (.cons (.var 0) .nil)))
  (.seq (.exp (.call "need_number" (.cons (.var 1) .nil)))
  (.seq (.iff (.nt (.call "is_whole" (.cons (.var 2) (.cons (.cint 0) (.cons (.glb "MOST_ROW") .nil)))))
  (.seq (.raise "BadNumber" (.var 2))
  .nil)
  .nil)
  (.seq (.ret (.bif "tuple" (.cons (.lc (.call "name_in" (.cons (.var 0) (.cons (.bin .Add (.var 1) (.var 3)) .nil))) [("place", 3)] (.nm 3) (.rng1 (.var 2)) .nil) .nil)))
  .nil))))
def fn_row_part : Fn := ⟨3, 4, ir_row_part⟩
/-- has(deal, coins); slots 0 deal 1 coins -/
def ir_has : S :=
  (.seq (.exp (.call "need_deal" (.cons (.var 0) .nil)))
  (.seq (.ret (.call "has_in" (.cons (.var 0) (.cons (.call "need_number" (.cons (.var 1) .nil)) .nil))))
  .nil))
def fn_has : Fn := ⟨2, 2, ir_has⟩
/-- gets(deal, behind, coins); slots 0 deal 1 behind 2 coins 3 one 4 more -/
def ir_gets : S :=
  (.seq (.exp (.call "need_deal" (.cons (.var 0) .nil)))
  (.seq (.exp (.call "need_number" (.cons (.var 1) .nil)))
  (.seq (.exp (.call "need_number" (.cons (.var 2) .nil)))
  (.seq (.ret (.bif "tuple" (.cons (.lc (.bin .Sub (.var 4) (.var 3)) [("one", 3), ("more", 4)] (.tp (.cons (.nm 3) (.cons (.nm 4) .nil))) (.zp (.call "has_in" (.cons (.var 0) (.cons (.var 1) .nil))) (.call "has_in" (.cons (.var 0) (.cons (.bin .Add (.var 1) (.var 2)) .nil)))) .nil) .nil)))
  .nil))))
def fn_gets : Fn := ⟨3, 5, ir_gets⟩
/-- run_at(deal, coin); slots 0 deal 1 coin -/
def ir_run_at : S :=
  (.seq (.exp (.call "need_deal" (.cons (.var 0) .nil)))
  (.seq (.ret (.call "place_in" (.cons (.idx (.var 0) (.cint 1)) (.cons (.call "need_number" (.cons (.var 1) .nil)) .nil))))
  .nil))
def fn_run_at : Fn := ⟨2, 2, ir_run_at⟩
/-- _law_begun(_law_script); slots 0 _law_script 1 _law_great 2 _law_cell -/
def ir__law_begun : S :=
  (.seq (.asg (.nm 1) (.lc (.var 2) [("_law_cell", 2)] (.nm 2) (.itr (.var 0)) (.cons (.cmp .GtE (.var 2) (.bin .Pow (.cint 10) (.cint 18))) .nil)))
  (.seq (.ret (.dnew ["cells", "left", "spot"] (.cons (.bin .Add (.bif "list" (.cons (.var 0) .nil)) (.lst (.cons (.bif "len" (.cons (.var 0) .nil)) .nil))) (.cons (.ite (.cmp .NotEq (.var 1) (.lst .nil)) (.idx (.var 1) (.cint 0)) (.cint 0)) (.cons (.cint 0) .nil)))))
  .nil))
def fn__law_begun : Fn := ⟨1, 3, ir__law_begun⟩
/-- _law_draw(_law_m, _law_many); slots 0 _law_m 1 _law_many 2 _law_spot 3 _law_cell 4 _law_mixed 5 _law_found -/
def ir__law_draw : S :=
  (.seq (.iff (.cmp .Gt (.dget 0 "left") (.cint 0))
  (.seq (.asg (.nm 5) (.bin .Mod (.bif "int" (.cons (.dget 0 "left") .nil)) (.var 1)))
  (.seq (.dput 0 "left" (.bin .FloorDiv (.dget 0 "left") (.var 1)))
  (.seq (.ret (.var 5))
  .nil)))
  .nil)
  (.seq (.asg (.nm 2) (.bin .Add (.dget 0 "spot") (.cint 1)))
  (.seq (.dput 0 "spot" (.var 2))
  (.seq (.asg (.nm 3) (.idx (.dget 0 "cells") (.bin .Mod (.bif "int" (.cons (.var 2) .nil)) (.bif "len" (.cons (.dget 0 "cells") .nil)))))
  (.seq (.asg (.nm 4) (.bin .Mult (.bif "int" (.cons (.bin .Add (.bin .Add (.bin .Mod (.bif "int" (.cons (.var 3) .nil)) (.cint 2147483629)) (.bin .Mult (.cint 6133) (.var 2))) (.bin .Mult (.bin .Mult (.cint 23) (.var 2)) (.var 2))) .nil)) (.cint 48271)))
  (.seq (.asg (.nm 4) (.bin .Mult (.bif "int" (.cons (.bin .Add (.bin .Mod (.bif "int" (.cons (.var 4) .nil)) (.cint 2147483647)) (.bin .Mult (.cint 93241) (.var 2))) .nil)) (.cint 69621)))
  (.seq (.ret (.bin .Mod (.bif "int" (.cons (.bin .FloorDiv (.bin .Mod (.bif "int" (.cons (.var 4) .nil)) (.cint 2147483587)) (.cint 13)) .nil)) (.var 1)))
  .nil)))))))
def fn__law_draw : Fn := ⟨2, 6, ir__law_draw⟩
/-- _law_of(_law_m, _law_some); slots 0 _law_m 1 _law_some -/
def ir__law_of : S :=
  (.seq (.ret (.idx (.var 1) (.call "_law_draw" (.cons (.var 0) (.cons (.bif "len" (.cons (.var 1) .nil)) .nil)))))
  .nil)
def fn__law_of : Fn := ⟨2, 2, ir__law_of⟩
/-- _law_people(_law_m, _law_most); slots 0 _law_m 1 _law_most 2 _law_some -/
def ir__law_people : S :=
  (.seq (.asg (.nm 2) (.lst (.cons (.tup (.cons (.cstr "a") (.cons (.cstr "b") (.cons (.cstr "c") (.cons (.cstr "d") (.cons (.cstr "e") (.cons (.cstr "f") .nil))))))) (.cons (.tup (.cons (.cstr "ada") (.cons (.cstr "bob") (.cons (.cstr "cy") (.cons (.cstr "dan") (.cons (.cstr "eve") (.cons (.cstr "flo") .nil))))))) .nil))))
  (.seq (.ret (.slc (.call "_law_of" (.cons (.var 0) (.cons (.bin .Add (.var 2) (.lst (.cons (.tup (.cons (.cstr "a") (.cons (.cstr "aa") (.cons (.cstr "ab") (.cons (.cstr "b") (.cons (.cstr "zz") (.cons (.cstr "zzzzzz") .nil))))))) .nil))) .nil))) .nil (.cons (.bin .Add (.cint 1) (.call "_law_draw" (.cons (.var 0) (.cons (.var 1) .nil)))) .nil)))
  .nil))
def fn__law_people : Fn := ⟨2, 3, ir__law_people⟩
/-- _law_figures(_law_m, _law_total, _law_long); slots 0 _law_m 1 _law_total 2 _law_long 3 _law_k -/
def ir__law_figures : S :=
  (.seq (.ret (.mth "join" (.cstr "") (.cons (.lc (.idx (.cstr "012345") (.call "_law_draw" (.cons (.var 0) (.cons (.var 1) .nil)))) [("_law_k", 3)] (.nm 3) (.rng1 (.bin .Add (.cint 1) (.call "_law_draw" (.cons (.var 0) (.cons (.var 2) .nil))))) .nil) .nil)))
  .nil)
def fn__law_figures : Fn := ⟨3, 4, ir__law_figures⟩
/-- _law_runs(_law_m, _law_total, _law_many, _law_top, _law_long); slots 0 _law_m 1 _law_total 2 _law_many 3 _law_top 4 _law_long 5 _law_found 6 _law_k -/
def ir__law_runs : S :=
  (.seq (.asgO 5 (.lst .nil))
  (.seq (.forr (.nm 6) (.rng1 (.call "_law_draw" (.cons (.var 0) (.cons (.var 2) .nil))))
  (.seq (.app 5 (.tup (.cons (.bin .Add (.cint 1) (.call "_law_draw" (.cons (.var 0) (.cons (.var 3) .nil)))) (.cons (.call "_law_figures" (.cons (.var 0) (.cons (.var 1) (.cons (.var 4) .nil)))) .nil))))
  .nil))
  (.seq (.ret (.bif "tuple" (.cons (.bin .Add (.var 5) (.lst (.cons (.tup (.cons .cnon (.cons (.call "_law_figures" (.cons (.var 0) (.cons (.var 1) (.cons (.var 4) .nil)))) .nil))) .nil))) .nil)))
  .nil)))
def fn__law_runs : Fn := ⟨5, 7, ir__law_runs⟩
/-- _law_deal(_law_m, _law_most, _law_many, _law_top, _law_long); slots 0 _law_m 1 _law_most 2 _law_many 3 _law_top 4 _law_long 5 _law_people_here -/
def ir__law_deal : S :=
  (.seq (.asg (.nm 5) (.call "_law_people" (.cons (.var 0) (.cons (.var 1) .nil))))
  (.seq (.ret (.tup (.cons (.var 5) (.cons (.call "_law_runs" (.cons (.var 0) (.cons (.bif "len" (.cons (.var 5) .nil)) (.cons (.var 2) (.cons (.var 3) (.cons (.var 4) .nil)))))) .nil))))
  .nil))
def fn__law_deal : Fn := ⟨5, 6, ir__law_deal⟩
/-- _law_row(_law_runs_here, _law_size); slots 0 _law_runs_here 1 _law_size 2 _law_found 3 _law_coins 4 _law_figures_here 5 _law_left 6 _law_k -/
def ir__law_row : S :=
  (.seq (.asg (.nm 2) (.lst .nil))
  (.seq (.forr (.tp (.cons (.nm 3) (.cons (.nm 4) .nil))) (.itr (.var 0))
  (.seq (.asg (.nm 5) (.ite (.cmp .Is (.var 3) .cnon) (.bin .Sub (.var 1) (.bif "len" (.cons (.var 2) .nil))) (.bif "min" (.cons (.var 3) (.cons (.bin .Sub (.var 1) (.bif "len" (.cons (.var 2) .nil))) .nil)))))
  (.seq (.asg (.nm 2) (.bin .Add (.var 2) (.lc (.idx (.var 4) (.bin .Mod (.bif "int" (.cons (.var 6) .nil)) (.bif "len" (.cons (.var 4) .nil)))) [("_law_k", 6)] (.nm 6) (.rng1 (.var 5)) .nil)))
  .nil)))
  (.seq (.ret (.var 2))
  .nil)))
def fn__law_row : Fn := ⟨2, 7, ir__law_row⟩
/-- _law_places(_law_runs_here, _law_size); slots 0 _law_runs_here 1 _law_size 2 _law_found 3 _law_number 4 _law_left 5 _law_coins 6 _law_figures_here 7 _law_k -/
def ir__law_places : S :=
  (.seq (.asg (.nm 2) (.lst .nil))
  (.seq (.forr (.tp (.cons (.nm 3) (.cons (.tp (.cons (.nm 5) (.cons (.nm 6) .nil))) .nil))) (.enm (.var 0))
  (.seq (.asg (.nm 4) (.ite (.cmp .Is (.var 5) .cnon) (.bin .Sub (.var 1) (.bif "len" (.cons (.var 2) .nil))) (.bif "min" (.cons (.var 5) (.cons (.bin .Sub (.var 1) (.bif "len" (.cons (.var 2) .nil))) .nil)))))
  (.seq (.asg (.nm 2) (.bin .Add (.var 2) (.lc (.tup (.cons (.var 3) (.cons (.var 7) .nil))) [("_law_k", 7)] (.nm 7) (.rng1 (.var 4)) .nil)))
  .nil)))
  (.seq (.ret (.var 2))
  .nil)))
def fn__law_places : Fn := ⟨2, 8, ir__law_places⟩
/-- _law_right(_law_m, _law_pact); slots 0 _law_m 1 _law_pact 2 _law_total 3 _law_row_here 4 _law_one 5 _law_again 6 _law_people_here 7 _law_runs_here 8 _law_sums 9 _law_own 10 _law_begin 11 _law_due 12 _law_told 13 _law_both 14 _law_sign 15 _law_more 16 _law_far 17 _law_k 18 _law_two -/
def ir__law_right : S :=
  (.seq (.asg (.tp (.cons (.nm 6) (.cons (.nm 7) .nil))) (.var 1))
  (.seq (.asg (.nm 2) (.bif "len" (.cons (.var 6) .nil)))
  (.seq (.asg (.nm 3) (.lc (.idx (.var 6) (.mth "index" (.cstr "012345") (.cons (.var 14) .nil))) [("_law_sign", 14)] (.nm 14) (.itr (.call "_law_row" (.cons (.var 7) (.cons (.cint 90) .nil)))) .nil))
  (.seq (.iff (.cmp .NotEq (.bif "repr" (.cons (.lc (.call "name_at" (.cons (.var 1) (.cons (.var 17) .nil))) [("_law_k", 17)] (.nm 17) (.rng1 (.cint 90)) .nil) .nil)) (.bif "repr" (.cons (.var 3) .nil)))
  (.seq (.ret (.cbl false))
  .nil)
  .nil)
  (.seq (.iff (.cmp .NotEq (.bif "repr" (.cons (.call "row_part" (.cons (.var 1) (.cons (.cint 0) (.cons (.cint 90) .nil)))) .nil)) (.bif "repr" (.cons (.bif "tuple" (.cons (.var 3) .nil)) .nil)))
  (.seq (.ret (.cbl false))
  .nil)
  .nil)
  (.seq (.iff (.cmp .NotEq (.bif "repr" (.cons (.lc (.call "run_at" (.cons (.var 1) (.cons (.var 17) .nil))) [("_law_k", 17)] (.nm 17) (.rng1 (.cint 90)) .nil) .nil)) (.bif "repr" (.cons (.call "_law_places" (.cons (.var 7) (.cons (.cint 90) .nil))) .nil)))
  (.seq (.ret (.cbl false))
  .nil)
  .nil)
  (.seq (.par 8 9 true true (.lst (.cons (.bin .Mult (.tup (.cons (.cint 0) .nil)) (.var 2)) .nil)) (.bin .Mult (.lst (.cons (.cint 0) .nil)) (.var 2)))
  (.seq (.forr (.nm 4) (.itr (.var 3))
  (.seq (.aug2 9 (.mth "index" (.var 6) (.cons (.var 4) .nil)) .Add (.cint 1))
  (.seq (.app 8 (.bif "tuple" (.cons (.var 9) .nil)))
  .nil)))
  (.seq (.iff (.cmp .NotEq (.bif "repr" (.cons (.lc (.call "has" (.cons (.var 1) (.cons (.var 17) .nil))) [("_law_k", 17)] (.nm 17) (.rng1 (.cint 91)) .nil) .nil)) (.bif "repr" (.cons (.var 8) .nil)))
  (.seq (.ret (.cbl false))
  .nil)
  .nil)
  (.seq (.forr (.nm 5) (.rng1 (.cint 6))
  (.seq (.asg (.nm 10) (.call "_law_draw" (.cons (.var 0) (.cons (.cint 60) .nil))))
  (.seq (.par 15 16 false false (.call "_law_draw" (.cons (.var 0) (.cons (.cint 16) .nil))) (.call "_law_draw" (.cons (.var 0) (.cons (.cint 15) .nil))))
  (.seq (.asgO 11 (.lst (.cons (.bif "tuple" (.cons (.lc (.bin .Sub (.var 18) (.var 4)) [("_law_one", 4), ("_law_two", 18)] (.tp (.cons (.nm 4) (.cons (.nm 18) .nil))) (.zp (.idx (.var 8) (.var 10)) (.idx (.var 8) (.bin .Add (.var 10) (.var 15)))) .nil) .nil)) .nil)))
  (.seq (.app 11 (.bif "tuple" (.cons (.lc (.bin .Sub (.var 18) (.var 4)) [("_law_one", 4), ("_law_two", 18)] (.tp (.cons (.nm 4) (.cons (.nm 18) .nil))) (.zp (.idx (.var 8) (.bin .Add (.var 10) (.var 15))) (.idx (.var 8) (.bin .Add (.bin .Add (.var 10) (.var 15)) (.var 16)))) .nil) .nil)))
  (.seq (.asg (.nm 12) (.lst (.cons (.call "gets" (.cons (.var 1) (.cons (.var 10) (.cons (.var 15) .nil)))) (.cons (.call "gets" (.cons (.var 1) (.cons (.bin .Add (.var 10) (.var 15)) (.cons (.var 16) .nil)))) .nil))))
  (.seq (.iff (.cmp .NotEq (.bif "repr" (.cons (.var 12) .nil)) (.bif "repr" (.cons (.var 11) .nil)))
  (.seq (.ret (.cbl false))
  .nil)
  .nil)
  (.seq (.iff (.cmp .NotEq (.bif "repr" (.cons (.call "row_part" (.cons (.var 1) (.cons (.var 10) (.cons (.var 15) .nil)))) .nil)) (.bif "repr" (.cons (.bif "tuple" (.cons (.slc (.var 3) (.cons (.var 10) .nil) (.cons (.bin .Add (.var 10) (.var 15)) .nil)) .nil)) .nil)))
  (.seq (.ret (.cbl false))
  .nil)
  .nil)
  (.seq (.asg (.nm 13) (.bif "tuple" (.cons (.lc (.bin .Add (.var 4) (.var 18)) [("_law_one", 4), ("_law_two", 18)] (.tp (.cons (.nm 4) (.cons (.nm 18) .nil))) (.zp (.idx (.var 12) (.cint 0)) (.idx (.var 12) (.cint 1))) .nil) .nil)))
  (.seq (.iff (.orr (.cons (.cmp .NotEq (.call "gets" (.cons (.var 1) (.cons (.var 10) (.cons (.bin .Add (.var 15) (.var 16)) .nil)))) (.var 13)) (.cons (.cmp .NotEq (.call "gets" (.cons (.var 1) (.cons (.var 10) (.cons (.cint 0) .nil)))) (.bin .Mult (.tup (.cons (.cint 0) .nil)) (.var 2))) .nil)))
  (.seq (.ret (.cbl false))
  .nil)
  .nil)
  .nil))))))))))
  (.seq (.ret (.cbl true))
  .nil)))))))))))
def fn__law_right : Fn := ⟨2, 19, ir__law_right⟩
/-- law(_law_script); slots 0 _law_script 1 _law_m 2 _law_lap 3 _law_one 4 _law_pact 5 _law_kept -/
def ir_law : S :=
  (.seq (.asg (.nm 1) (.call "_law_begun" (.cons (.var 0) .nil)))
  (.seq (.forr (.nm 2) (.rng1 (.bin .Add (.cint 4) (.bif "min" (.cons (.bif "len" (.cons (.var 0) .nil)) (.cons (.cint 8) .nil)))))
  (.seq (.asg (.nm 4) (.call "_law_deal" (.cons (.var 1) (.cons (.cint 6) (.cons (.cint 6) (.cons (.cint 9) (.cons (.cint 7) .nil)))))))
  (.seq (.asg (.nm 5) (.bif "repr" (.cons (.var 4) .nil)))
  (.seq (.iff (.orr (.cons (.nt (.call "_law_right" (.cons (.var 1) (.cons (.var 4) .nil)))) (.cons (.cmp .NotEq (.bif "repr" (.cons (.var 4) .nil)) (.var 5)) .nil)))
  (.seq (.ret (.cbl false))
  .nil)
  .nil)
  .nil))))
  (.seq (.asg (.nm 3) (.tup (.cons (.tup (.cons (.cstr "a") (.cons (.cstr "b") .nil))) (.cons (.tup (.cons (.tup (.cons (.cint 3) (.cons (.cstr "0") .nil))) (.cons (.tup (.cons (.cint 4) (.cons (.cstr "01") .nil))) (.cons (.tup (.cons .cnon (.cons (.cstr "110") .nil))) .nil)))) .nil))))
  (.seq (.iff (.cmp .NotEq (.call "row_part" (.cons (.var 3) (.cons (.cint 0) (.cons (.cint 13) .nil)))) (.tup (.cons (.cstr "a") (.cons (.cstr "a") (.cons (.cstr "a") (.cons (.cstr "a") (.cons (.cstr "b") (.cons (.cstr "a") (.cons (.cstr "b") (.cons (.cstr "b") (.cons (.cstr "b") (.cons (.cstr "a") (.cons (.cstr "b") (.cons (.cstr "b") (.cons (.cstr "a") .nil)))))))))))))))
  (.seq (.ret (.cbl false))
  .nil)
  .nil)
  (.seq (.iff (.orr (.cons (.cmp .NotEq (.call "has" (.cons (.var 3) (.cons (.cint 13) .nil))) (.tup (.cons (.cint 7) (.cons (.cint 6) .nil)))) (.cons (.cmp .NotEq (.call "gets" (.cons (.var 3) (.cons (.cint 3) (.cons (.cint 2) .nil)))) (.tup (.cons (.cint 1) (.cons (.cint 1) .nil)))) (.cons (.cmp .NotEq (.call "gets" (.cons (.var 3) (.cons (.cint 7) (.cons (.cint 3) .nil)))) (.tup (.cons (.cint 1) (.cons (.cint 2) .nil)))) .nil))))
  (.seq (.ret (.cbl false))
  .nil)
  .nil)
  (.seq (.ret (.andd (.cons (.cmp .Eq (.call "run_at" (.cons (.var 3) (.cons (.cint 7) .nil))) (.tup (.cons (.cint 2) (.cons (.cint 0) .nil)))) (.cons (.cmp .Eq (.call "name_at" (.cons (.var 3) (.cons (.cint 6) .nil))) (.cstr "b")) .nil))))
  .nil))))))
def fn_law : Fn := ⟨1, 6, ir_law⟩
def tbl : List (Str × Fn) := [(("is_whole" : Str), fn_is_whole), (("is_word" : Str), fn_is_word), (("are_names" : Str), fn_are_names), (("are_figures" : Str), fn_are_figures), (("is_run" : Str), fn_is_run), (("need_deal" : Str), fn_need_deal), (("need_number" : Str), fn_need_number), (("count_in" : Str), fn_count_in), (("parts_of" : Str), fn_parts_of), (("count_by" : Str), fn_count_by), (("has_in" : Str), fn_has_in), (("place_in" : Str), fn_place_in), (("name_in" : Str), fn_name_in), (("name_at" : Str), fn_name_at), (("row_part" : Str), fn_row_part), (("has" : Str), fn_has), (("gets" : Str), fn_gets), (("run_at" : Str), fn_run_at), (("_law_begun" : Str), fn__law_begun), (("_law_draw" : Str), fn__law_draw), (("_law_of" : Str), fn__law_of), (("_law_people" : Str), fn__law_people), (("_law_figures" : Str), fn__law_figures), (("_law_runs" : Str), fn__law_runs), (("_law_deal" : Str), fn__law_deal), (("_law_row" : Str), fn__law_row), (("_law_places" : Str), fn__law_places), (("_law_right" : Str), fn__law_right), (("law" : Str), fn_law)]
def glb (x : Str) : Option PyData :=
  if x = "MOST_NAMES" then some (.int 6) else if x = "MOST_SIGNS" then some (.int 6) else if x = "MOST_COINS" then some (.int 1000000000000) else if x = "MOST_FIGURES" then some (.int 400) else if x = "MOST_RUNS" then some (.int 60) else if x = "MOST_NUMBER" then some (.int 1000000000000000000000000000000) else if x = "MOST_ROW" then some (.int 1000) else if x = "LETTERS" then some (.str "abcdefghijklmnopqrstuvwxyz") else if x = "DIGITS" then some (.str "0123456789") else none
-- bad 0
end Rv

set_option Elab.async false
set_option linter.all false
set_option maxRecDepth 100000
set_option maxHeartbeats 1000000
/-! Rv, mathematics: running the small language by simp. -/
namespace Rm
open Rv
open PySem
theorem nr {α : Type} {a b : α} (h : a = b) : a = b := h
def gd {α : Type} (b : Bool) (r : Res α) : Res α := match b with
  | true => r
  | false => .bad
theorem gd_t {α : Type} (r : Res α) : gd true r = r := nr rfl
def ob {α : Type} (b : Bool) (x : α) : Option α := match b with
  | true => some x
  | false => none
theorem ob_t {α : Type} (x : α) : ob true x = some x := nr rfl
theorem ok_bind {α β : Type} (a : α) (f : α → Res β) : (Res.ok a).bind f = f a := nr rfl
theorem ofO_some {α : Type} (a : α) : Res.ofO (some a) = .ok a := nr rfl
theorem toD_dat (d : PyData) (st : Sto) : toD (.ok (.dat d, st)) = .ok (d, st) := nr rfl
theorem toB_bool (b : Bool) (st : Sto) : toB (.ok (.dat (.bool b), st)) = .ok (b, st) := nr rfl
theorem getS_zero (x : Option Slot) (r : En) : getS (x :: r) 0 = x := by cases x <;> rfl
theorem getS_succ (x : Option Slot) (r : En) (i : Nat) : getS (x :: r) (i + 1) = getS r i := nr rfl
theorem bind_assoc {α β γ : Type} (x : Res α) (f : α → Res β) (g : β → Res γ) : (x.bind f).bind g = x.bind fun a => (f a).bind g := by cases x <;> rfl
theorem run_def {wf n : Nat} {f : Str} {fn : Fn} {xs : List Vl} {st st' : Sto} {v : Vl} (h : tbl.lookup f = some fn) (hl : xs.length = fn.np) (hn : fn.np ≤ fn.ns) (e : evS (runF tbl glb wf n) glb wf fn.body (begin_ fn xs) st = .ok (.ret v st')) : runF tbl glb wf (n + 1) f xs st = .ok (v, st') := by
  simp only [runF, h, hl, hn, and_self, if_true, e, ok_bind]
theorem bif_len (xs : List PyData) : bifD "len" xs = lenD xs := nr rfl
theorem bif_int (xs : List PyData) : bifD "int" xs = intD xs := nr rfl
theorem bif_min (xs : List PyData) : bifD "min" xs = minD xs := nr rfl
theorem bif_max (xs : List PyData) : bifD "max" xs = maxD xs := nr rfl
theorem bif_sum (xs : List PyData) : bifD "sum" xs = sumD xs := nr rfl
theorem bif_sorted (xs : List PyData) : bifD "sorted" xs = sortedD xs := nr rfl
theorem bif_all (xs : List PyData) : bifD "all" xs = allD xs := nr rfl
theorem bif_any (xs : List PyData) : bifD "any" xs = anyD xs := nr rfl
theorem bif_tuple (xs : List PyData) : bifD "tuple" xs = tupleD xs := nr rfl
theorem bif_list (xs : List PyData) : bifD "list" xs = listD xs := nr rfl
theorem bif_divmod (xs : List PyData) : bifD "divmod" xs = divmodD xs := nr rfl
theorem mth_count (o : PyData) (xs : List PyData) : mthD "count" o xs = countD o xs := nr rfl
theorem mth_index (o : PyData) (xs : List PyData) : mthD "index" o xs = indexD o xs := nr rfl
theorem mth_join (o : PyData) (xs : List PyData) : mthD "join" o xs = joinD o xs := nr rfl
theorem isi_none_int : isiD .none "int" = some false := nr rfl
theorem isi_none_bool : isiD .none "bool" = some false := nr rfl
theorem isi_none_str : isiD .none "str" = some false := nr rfl
theorem isi_none_tuple : isiD .none "tuple" = some false := nr rfl
theorem isi_none_list : isiD .none "list" = some false := nr rfl
theorem isi_bool_int (b : Bool) : isiD (.bool b) "int" = some true := nr rfl
theorem isi_bool_bool (b : Bool) : isiD (.bool b) "bool" = some true := nr rfl
theorem isi_bool_str (b : Bool) : isiD (.bool b) "str" = some false := nr rfl
theorem isi_bool_tuple (b : Bool) : isiD (.bool b) "tuple" = some false := nr rfl
theorem isi_bool_list (b : Bool) : isiD (.bool b) "list" = some false := nr rfl
theorem isi_int_int (i : Int) : isiD (.int i) "int" = some true := nr rfl
theorem isi_int_bool (i : Int) : isiD (.int i) "bool" = some false := nr rfl
theorem isi_int_str (i : Int) : isiD (.int i) "str" = some false := nr rfl
theorem isi_int_tuple (i : Int) : isiD (.int i) "tuple" = some false := nr rfl
theorem isi_int_list (i : Int) : isiD (.int i) "list" = some false := nr rfl
theorem isi_str_int (z : Str) : isiD (.str z) "int" = some false := nr rfl
theorem isi_str_bool (z : Str) : isiD (.str z) "bool" = some false := nr rfl
theorem isi_str_str (z : Str) : isiD (.str z) "str" = some true := nr rfl
theorem isi_str_tuple (z : Str) : isiD (.str z) "tuple" = some false := nr rfl
theorem isi_str_list (z : Str) : isiD (.str z) "list" = some false := nr rfl
theorem isi_tuple_int (l : List PyData) : isiD (.tuple l) "int" = some false := nr rfl
theorem isi_tuple_bool (l : List PyData) : isiD (.tuple l) "bool" = some false := nr rfl
theorem isi_tuple_str (l : List PyData) : isiD (.tuple l) "str" = some false := nr rfl
theorem isi_tuple_tuple (l : List PyData) : isiD (.tuple l) "tuple" = some true := nr rfl
theorem isi_tuple_list (l : List PyData) : isiD (.tuple l) "list" = some false := nr rfl
theorem isi_list_int (l : List PyData) : isiD (.list l) "int" = some false := nr rfl
theorem isi_list_bool (l : List PyData) : isiD (.list l) "bool" = some false := nr rfl
theorem isi_list_str (l : List PyData) : isiD (.list l) "str" = some false := nr rfl
theorem isi_list_tuple (l : List PyData) : isiD (.list l) "tuple" = some false := nr rfl
theorem isi_list_list (l : List PyData) : isiD (.list l) "list" = some true := nr rfl
theorem c_lt (i j : Int) : cmpD .Lt (.int i) (.int j) = some (decide (i < j)) := nr rfl
theorem c_le (i j : Int) : cmpD .LtE (.int i) (.int j) = some (decide (i ≤ j)) := nr rfl
theorem c_gt (i j : Int) : cmpD .Gt (.int i) (.int j) = some (decide (j < i)) := nr rfl
theorem c_ge (i j : Int) : cmpD .GtE (.int i) (.int j) = some (decide (j ≤ i)) := nr rfl
theorem c_is_none : cmpD .Is .none .none = some true := nr rfl
theorem c_is_int (i : Int) : cmpD .Is (.int i) .none = some false := nr rfl
theorem c_is_str (z : Str) : cmpD .Is (.str z) .none = some false := nr rfl
theorem c_is_tup (l : List PyData) : cmpD .Is (.tuple l) .none = some false := nr rfl
theorem c_is_lst (l : List PyData) : cmpD .Is (.list l) .none = some false := nr rfl
theorem c_is_bool (b : Bool) : cmpD .Is (.bool b) .none = some false := nr rfl
theorem c_isnot_none : cmpD .IsNot .none .none = some false := nr rfl
theorem c_isnot_int (i : Int) : cmpD .IsNot (.int i) .none = some true := nr rfl
theorem c_isnot_str (z : Str) : cmpD .IsNot (.str z) .none = some true := nr rfl
theorem c_isnot_tup (l : List PyData) : cmpD .IsNot (.tuple l) .none = some true := nr rfl
theorem c_isnot_lst (l : List PyData) : cmpD .IsNot (.list l) .none = some true := nr rfl
theorem c_isnot_bool (b : Bool) : cmpD .IsNot (.bool b) .none = some true := nr rfl
theorem c_in_sgn (c : Nat) (y : Str) : cmpD .In (sgn c) (.str y) = some (decide (c ∈ txt y)) := nr rfl
theorem c_eq (x y : PyData) : cmpD .Eq x y = if eqOk x y then some (PyData.eqv x y) else none := by cases x <;> cases y <;> rfl
theorem eqOk_str (x y : Str) : eqOk (.str x) (.str y) = true := nr rfl
theorem eqOk_sh {x y : PyData} (h1 : SeqAt.shaped x = true) (h2 : SeqAt.shaped y = true) : eqOk x y = true := by
  unfold eqOk
  split
  · rfl
  · rw [h1, h2]; rfl
theorem c_ne (x y : PyData) : cmpD .NotEq x y = if eqOk x y then some (!PyData.eqv x y) else none := by cases x <;> cases y <;> rfl
theorem b_add (i j : Int) : binD .Add (.int i) (.int j) = some (.int (i + j)) := nr rfl
theorem b_sub (i j : Int) : binD .Sub (.int i) (.int j) = some (.int (i - j)) := nr rfl
theorem b_mul (i j : Int) : binD .Mult (.int i) (.int j) = ob (fitI i && fitI j) (.int (i * j)) := by
  show (if (fitI i && fitI j) = true then _ else _) = _
  cases (fitI i && fitI j) <;> rfl
theorem b_mod (i j : Int) : binD .Mod (.int i) (.int j) = if 0 < j then some (.int (i % j)) else none := nr rfl
theorem b_div (i j : Int) : binD .FloorDiv (.int i) (.int j) = ob (decide (0 < j) && fitI j) (.int (i / j)) := by
  show (if (decide (0 < j) && fitI j) = true then _ else _) = _
  cases (decide (0 < j) && fitI j) <;> rfl
theorem b_pow (i j : Int) : binD .Pow (.int i) (.int j) = if 0 ≤ j ∧ j ≤ 1000 ∧ i.natAbs < 2 ^ 64 then some (.int (i ^ j.toNat)) else none := nr rfl
theorem b_addl (i j : List PyData) : binD .Add (.list i) (.list j) = if i.length + j.length ≤ line then some (.list (i ++ j)) else none := nr rfl
theorem b_addt (i j : List PyData) : binD .Add (.tuple i) (.tuple j) = if i.length + j.length ≤ line then some (.tuple (i ++ j)) else none := nr rfl
theorem b_rep (i : List PyData) (j : Int) : binD .Mult (.list i) (.int j) = if -(2 ^ 63) ≤ j ∧ j < 1000 ∧ i.length ≤ 1000 then some (.list (List.replicate j.toNat i).flatten) else none := nr rfl
theorem l_lst (l : List PyData) : lenD [.list l] = some (.int l.length) := nr rfl
theorem l_tup (l : List PyData) : lenD [.tuple l] = some (.int l.length) := nr rfl
theorem l_str (z : Str) : lenD [.str z] = if z.length ≤ line then some (.int z.length) else none := nr rfl
theorem i_int (i : Int) : intD [.int i] = some (.int i) := nr rfl
theorem x_lst (l : List PyData) (i : Int) : idxD (.list l) (.int i) = L2.atI l i := nr rfl
theorem x_tup (l : List PyData) (i : Int) : idxD (.tuple l) (.int i) = L2.atI l i := nr rfl
theorem x_str (z : Str) (i : Int) : idxD (.str z) (.int i) = if z.length ≤ line then (L2.atI (txt z) i).map sgn else none := nr rfl
theorem m_min (i j : Int) : minD [.int i, .int j] = some (.int (if j < i then j else i)) := nr rfl
theorem it_l (l : List PyData) : itemsD (.list l) = some l := nr rfl
theorem it_t (l : List PyData) : itemsD (.tuple l) = some l := nr rfl
theorem it_s (z : Str) : itemsD (.str z) = some ((txt z).map sgn) := nr rfl
theorem t_lst (l : List PyData) : tupleD [.list l] = some (.tuple l) := nr rfl
theorem q_lst (l : List PyData) : listD [.list l] = some (.list l) := nr rfl
theorem q_tup (l : List PyData) : listD [.tuple l] = some (.list l) := nr rfl
theorem bG_tp (g : G) (l : List PyData) (en : En) : bindG (.tp g) (.tuple l) en = bindG.bindGs g l en := by simp only [bindG]
theorem bG_nm (i : Nat) (x : PyData) (en : En) : bindG (.nm i) x en = if i < en.length then some (en.set i (some (.val (.dat x)))) else none := by simp only [bindG]
theorem bGs_nil (en : En) : bindG.bindGs .nil [] en = some en := by simp only [bindG.bindGs]
theorem bGs_cons (a r : G) (x : PyData) (l : List PyData) (en : En) : bindG.bindGs (.cons a r) (x :: l) en = (bindG a x en).bind (bindG.bindGs r l) := by
  simp only [bindG.bindGs]
  cases bindG a x en <;> rfl
theorem n2 : ((0 + 1 + 1 : Nat) : Int) = 2 := nr rfl
theorem at20 {α : Type} (a b : α) : L2.atI [a, b] 0 = some a := nr rfl
theorem at21 {α : Type} (a b : α) : L2.atI [a, b] 1 = some b := nr rfl
theorem ob_some {α β : Type} (a : α) (f : α → Option β) : (some a).bind f = f a := nr rfl
/-! ### one step at a time: frames -/
section
variable (F : Str → List Vl → Sto → Res (Vl × Sto)) (G' : Str → Option PyData) (wf : Nat)
abbrev RV := Res (Vl × Sto)
def varK : Option Slot → Sto → RV
  | some (.val v), st => .ok (v, st)
  | some (.own l), st => .ok (.dat (.list l), st)
  | none, _ => .bad
def glbK : Option PyData → Sto → RV
  | some d, st => .ok (.dat d, st)
  | none, _ => .bad
def cbK : Option Bool → Sto → RV
  | some b, st => .ok (.dat (.bool b), st)
  | none, _ => .bad
def binJ (op : Operator) (x : PyData) (r : RV) : RV := (toD r).bind fun (y, st2) => glbK (binD op x y) st2
def binK (op : Operator) (r : RV) (b : E) (en : En) : RV := (toD r).bind fun (x, st1) => binJ op x (evE F G' b en st1)
def negK (r : RV) : RV := (toD r).bind fun (x, st1) => match x with
    | .int i => .ok (.dat (.int (-i)), st1)
    | _ => .bad
def ntK (r : RV) : RV := (toB r).bind fun (b, st1) => .ok (.dat (.bool (!b)), st1)
def andK (r : RV) (es : E) (en : En) : RV := (toB r).bind fun (b, st1) => if b then evAnd F G' es en st1 else .ok (.dat (.bool false), st1)
def orK (r : RV) (es : E) (en : En) : RV := (toB r).bind fun (b, st1) => if b then .ok (.dat (.bool true), st1) else evOr F G' es en st1
def cmpJ (op : CmpOp) (x : PyData) (r : RV) : RV := (toD r).bind fun (y, st2) => cbK (cmpD op x y) st2
def cmpK (op : CmpOp) (r : RV) (b : E) (en : En) : RV := (toD r).bind fun (x, st1) => cmpJ op x (evE F G' b en st1)
def chnL (o2 : CmpOp) (y : PyData) (t : Option Bool) (c : E) (en : En) (st2 : Sto) : RV := match t with
    | some true => cmpJ o2 y (evE F G' c en st2)
    | some false => .ok (.dat (.bool false), st2)
    | none => .bad
def chnJ (o1 o2 : CmpOp) (x : PyData) (r : RV) (c : E) (en : En) : RV := (toD r).bind fun (y, st2) => chnL F G' o2 y (cmpD o1 x y) c en st2
def chnK (o1 o2 : CmpOp) (r : RV) (b c : E) (en : En) : RV := (toD r).bind fun (x, st1) => chnJ F G' o1 o2 x (evE F G' b en st1) c en
def iteK (r : RV) (a b : E) (en : En) : RV := (toB r).bind fun (t, st1) => if isOwn en a || isOwn en b then .bad else if t then evE F G' a en st1 else evE F G' b en st1
def tupJ : Option (List PyData) → Sto → RV
  | some ds, st1 => if ds.length ≤ line then .ok (.dat (.tuple ds), st1) else .bad
  | none, _ => .bad
def tupK (r : Res (List Vl × Sto)) : RV := r.bind fun (xs, st1) => tupJ (dats xs) st1
def lstJ : Option (List PyData) → Sto → RV
  | some ds, st1 => if ds.length ≤ line then .ok (.dat (.list ds), st1) else .bad
  | none, _ => .bad
def lstK (r : Res (List Vl × Sto)) : RV := r.bind fun (xs, st1) => lstJ (dats xs) st1
def idxJ (x : PyData) (r : RV) : RV := (toD r).bind fun (y, st2) => glbK (idxD x y) st2
def idxK (r : RV) (i : E) (en : En) : RV := (toD r).bind fun (x, st1) => idxJ x (evE F G' i en st1)
def slcL (x : PyData) (l : Option Int) (r : Res (Option Int × Sto)) : RV := r.bind fun (h, st3) => glbK (sliceD x l h) st3
def slcJ (x : PyData) (r : Res (Option Int × Sto)) (hi : E) (en : En) : RV := r.bind fun (l, st2) => slcL x l (evO F G' hi en st2)
def slcK (r : RV) (lo hi : E) (en : En) : RV := (toD r).bind fun (x, st1) => slcJ F G' x (evO F G' lo en st1) hi en
def evOK (r : RV) : Res (Option Int × Sto) := (toD r).bind fun (x, st1) => match x with
    | .int i => .ok (some i, st1)
    | _ => .bad
def callK (f : Str) (r : Res (List Vl × Sto)) : RV := r.bind fun (xs, st1) => F f xs st1
def bifK (f : Str) (r : Res (List PyData × Sto)) : RV := r.bind fun (xs, st1) => glbK (bifD f xs) st1
def mthJ (m : Str) (x : PyData) (r : Res (List PyData × Sto)) : RV := r.bind fun (xs, st2) => glbK (mthD m x xs) st2
def mthK (m : Str) (r : RV) (es : E) (en : En) : RV := (toD r).bind fun (x, st1) => mthJ m x (evR F G' es en st1)
def isiK (r : RV) (t : String) : RV := (toD r).bind fun (x, st1) => cbK (isiD x t) st1
def lcS (elt : E) (tg : G) (ifs : E) (en0 : En) (x : PyData) (st' : Sto) : Res (Option PyData × Sto) := match bindG tg x en0 with
        | some en' => (evTs F G' ifs en' st').bind fun (b, st2) => if b then (if isOwn en' elt then .bad else (toD (evE F G' elt en' st2)).bind fun (y, st3) => .ok (some y, st3)) else .ok (none, st2)
        | none => .bad
def lcT (elt : E) (tg : G) (ifs : E) (en0 : En) (xs : List PyData) (st : Sto) : Res (List PyData × Sto) := lcRun (lcS F G' elt tg ifs en0) xs st
def lcJ (r : Res (List PyData × Sto)) : RV := r.bind fun (ys, st2) => if ys.length ≤ line then .ok (.dat (.list ys), st2) else .bad
def lcK (elt : E) (tg : G) (ifs : E) (en0 : En) (r : Res (List PyData × Sto)) : RV := r.bind fun (xs, st1) => lcJ (lcT F G' elt tg ifs en0 xs st1)
def lcA (elt : E) (en' : En) (r : Res (Bool × Sto)) : Res (Option PyData × Sto) := r.bind fun (b, st2) => if b then (if isOwn en' elt then .bad else (toD (evE F G' elt en' st2)).bind fun (y, st3) => .ok (some y, st3)) else .ok (none, st2)
def lcB (r : RV) : Res (Option PyData × Sto) := (toD r).bind fun (y, st3) => .ok (some y, st3)
def lcE (elt : E) (ifs : E) (o : Option En) (st' : Sto) : Res (Option PyData × Sto) := match o with
        | some en' => lcA F G' elt en' (evTs F G' ifs en' st')
        | none => .bad
def dgK (s : Option Slot) (k : Str) (st : Sto) : RV := match s with
    | some (.val (.dic n)) => glbK (dGet st n k) st
    | _ => .bad
def dnK (ks : List Str) (n : Nat) (r : Res (List Vl × Sto)) : RV := r.bind fun (xs, st1) => match dats xs, st1[n]? with
    | some ds, some [] => if ks.length = ds.length ∧ ks.Nodup ∧ ks.length ≤ 15 then .ok (.dic n, st1.set n (ks.zip ds)) else .bad
    | _, _ => .bad
def evLJ (x : Vl) (r : Res (List Vl × Sto)) : Res (List Vl × Sto) := r.bind fun (xs, st2) => .ok (x :: xs, st2)
def evLK (r : RV) (q : E) (en : En) : Res (List Vl × Sto) := r.bind fun (x, st1) => evLJ x (evL F G' q en st1)
def evRJ (x : PyData) (r : Res (List PyData × Sto)) : Res (List PyData × Sto) := r.bind fun (xs, st2) => .ok (x :: xs, st2)
def evRK (r : RV) (q : E) (en : En) : Res (List PyData × Sto) := (toD r).bind fun (x, st1) => evRJ x (evR F G' q en st1)
def r1K (r : RV) : Res (List PyData × Sto) := (toD r).bind fun (x, st1) => match x with
    | .int j => if fit62 j then .ok (upto 0 j.toNat, st1) else .bad
    | _ => .bad
def r2J (x : PyData) (r : RV) : Res (List PyData × Sto) := (toD r).bind fun (y, st2) => match x, y with
    | .int i, .int j => if fit62 i && fit62 j then .ok (upto i (j - i).toNat, st2) else .bad
    | _, _ => .bad
def r2K (r : RV) (b : E) (en : En) : Res (List PyData × Sto) := (toD r).bind fun (x, st1) => r2J x (evE F G' b en st1)
def enK (r : RV) : Res (List PyData × Sto) := (toD r).bind fun (x, st1) => match x with
    | .list l => .ok (enumD 0 l, st1)
    | .tuple l => .ok (enumD 0 l, st1)
    | _ => .bad
def zpL (x y : PyData) (st2 : Sto) : Res (List PyData × Sto) := match x, y with
    | .list l, .list m => .ok (zipD l m, st2)
    | .tuple l, .tuple m => .ok (zipD l m, st2)
    | .tuple l, .list m => .ok (zipD l m, st2)
    | .list l, .tuple m => .ok (zipD l m, st2)
    | _, _ => .bad
def zpJ (x : PyData) (r : RV) : Res (List PyData × Sto) := (toD r).bind fun (y, st2) => zpL x y st2
def zpK (r : RV) (b : E) (en : En) : Res (List PyData × Sto) := (toD r).bind fun (x, st1) => zpJ x (evE F G' b en st1)
def itJ : Option (List PyData) → Sto → Res (List PyData × Sto)
  | some l, st => .ok (l, st)
  | none, _ => .bad
def itK (r : RV) : Res (List PyData × Sto) := (toD r).bind fun (x, st1) => itJ (itemsD x) st1
def nxK : Option En → Sto → Res Out
  | some en, st => .ok (.next en st)
  | none, _ => .bad
def seqK (r : Res Out) (q : S) : Res Out := r.bind fun o => match o with
    | .next en1 st1 => evS F G' wf q en1 st1
    | .ret v st1 => .ok (.ret v st1)
    | .brk en1 st1 => .ok (.brk en1 st1)
def slK : Option Slot → Sto → Res (Slot × Sto)
  | some s, st => .ok (s, st)
  | none, _ => .bad
def evAK (o : Bool) (r : RV) : Res (Slot × Sto) := r.bind fun (v, st1) => slK (asSlot o v) st1
def asK (i : Nat) (en : En) (r : Res (Slot × Sto)) : Res Out := r.bind fun (s, st1) => nxK (putS en i s) st1
def agK (g : G) (en : En) (r : RV) : Res Out := (toD r).bind fun (x, st1) => nxK (bindG g x en) st1
def pa2 (o : Option En) (j : Nat) (s' : Slot) (st2 : Sto) : Res Out := match o with
  | some en1 => nxK (putS en1 j s') st2
  | none => .bad
def paJ (i j : Nat) (en : En) (s : Slot) (r : Res (Slot × Sto)) : Res Out := r.bind fun (s', st2) => pa2 (putS en i s) j s' st2
def paK (i j : Nat) (oj : Bool) (b : E) (en : En) (r : Res (Slot × Sto)) : Res Out := r.bind fun (s, st1) => paJ i j en s (evA F G' oj b en st1)
def agJ (x : Int) (op : Operator) (i : Nat) (en : En) (r : RV) : Res Out := (toD r).bind fun (y, st1) => match op, y with
      | .Add, .int y => nxK (putS en i (.val (.dat (.int (x + y))))) st1
      | .Sub, .int y => nxK (putS en i (.val (.dat (.int (x - y))))) st1
      | _, _ => .bad
def auK (s : Option Slot) (op : Operator) (i : Nat) (e : E) (en : En) (st : Sto) : Res Out := match s with
    | some (.val (.dat (.int x))) => agJ x op i en (evE F G' e en st)
    | _ => .bad
def apJ (l : List PyData) (i : Nat) (en : En) (r : RV) : Res Out := (toD r).bind fun (y, st1) => if l.length < line then .ok (.next (en.set i (some (.own (l ++ [y])))) st1) else .bad
def apK (s : Option Slot) (i : Nat) (e : E) (en : En) (st : Sto) : Res Out := match s with
    | some (.own l) => if isOwn en e then .bad else apJ l i en (evE F G' e en st)
    | _ => .bad
def siL (l : List PyData) (i : Nat) (en : En) (y : PyData) (r : RV) : Res Out := (toD r).bind fun (x, st2) => match x with
      | .int n => if 0 ≤ n ∧ n < l.length then .ok (.next (en.set i (some (.own (l.set n.toNat y)))) st2) else .bad
      | _ => .bad
def siJ (l : List PyData) (i : Nat) (k : E) (en : En) (r : RV) : Res Out := (toD r).bind fun (y, st1) => siL l i en y (evE F G' k en st1)
def siK (s : Option Slot) (i : Nat) (k e : E) (en : En) (st : Sto) : Res Out := match s with
    | some (.own l) => if isOwn en e then .bad else siJ F G' l i k en (evE F G' e en st)
    | _ => .bad
def a2M (l : List PyData) (i : Nat) (en : En) (op : Operator) (x y : PyData) (st2 : Sto) : Res Out := match op, x, y with
      | .Add, .int n, .int y => if 0 ≤ n ∧ n < l.length then match l[n.toNat]? with
          | some (.int z) => .ok (.next (en.set i (some (.own (l.set n.toNat (.int (z + y)))))) st2)
          | _ => .bad
        else .bad
      | _, _, _ => .bad
def a2L (l : List PyData) (i : Nat) (en : En) (op : Operator) (x : PyData) (r : RV) : Res Out := (toD r).bind fun (y, st2) => a2M l i en op x y st2
def a2J (l : List PyData) (i : Nat) (op : Operator) (e : E) (en : En) (r : RV) : Res Out := (toD r).bind fun (x, st1) => a2L l i en op x (evE F G' e en st1)
def a2K (s : Option Slot) (i : Nat) (k : E) (op : Operator) (e : E) (en : En) (st : Sto) : Res Out := match s with
    | some (.own l) => a2J F G' l i op e en (evE F G' k en st)
    | _ => .bad
def dpL (o : Option (List (Str × PyData))) (n : Nat) (k : Str) (y : PyData) (en : En) (st1 : Sto) : Res Out := match o with
      | some kvs => if kvs.length < 1000 then .ok (.next en (st1.set n (putK k y kvs))) else .bad
      | none => .bad
def dpJ (n : Nat) (k : Str) (en : En) (r : RV) : Res Out := (toD r).bind fun (y, st1) => dpL st1[n]? n k y en st1
def dpK (s : Option Slot) (k : Str) (e : E) (en : En) (st : Sto) : Res Out := match s with
    | some (.val (.dic n)) => if isOwn en e then .bad else dpJ n k en (evE F G' e en st)
    | _ => .bad
def exK (en : En) (r : RV) : Res Out := r.bind fun (_, st1) => .ok (.next en st1)
def ifK (r : RV) (a b : S) (en : En) : Res Out := (toB r).bind fun (t, st1) => if t then evS F G' wf a en st1 else evS F G' wf b en st1
def foS (g : G) (b : S) (x : PyData) (en' : En) (st' : Sto) : Res Out := (Res.ofO (bindG g x en')).bind fun en2 => evS F G' wf b en2 st'
def foT (g : G) (b : S) (xs : List PyData) (en : En) (st : Sto) : Res Out := forRun (foS F G' wf g b) xs en st
def foK (g : G) (b : S) (en : En) (r : Res (List PyData × Sto)) : Res Out := r.bind fun (xs, st1) => foT F G' wf g b xs en st1
def foE (b : S) (o : Option En) (st' : Sto) : Res Out := match o with
  | some en2 => evS F G' wf b en2 st'
  | none => .bad
def whT (c : E) (b : S) (n : Nat) (en : En) (st : Sto) : Res Out := whRun (fun en' st' => toB (evE F G' c en' st')) (fun en' st' => evS F G' wf b en' st') n en st
def reK (r : RV) : Res Out := r.bind fun (v, st1) => .ok (.ret v st1)
end
section
variable {F : Str → List Vl → Sto → Res (Vl × Sto)} {G' : Str → Option PyData} {wf : Nat} {a b c : E} {en : En} {st st1 st2 : Sto}
theorem e_var {i : Nat} : evE F G' (.var i) en st = varK (getS en i) st := by simp only [evE]; rcases getS en i with _ | _ | _ <;> rfl
theorem k_val {v : Vl} : varK (some (.val v)) st = .ok (v, st) := nr rfl
theorem k_own {l : List PyData} : varK (some (.own l)) st = .ok (.dat (.list l), st) := nr rfl
theorem e_glb {x : Str} : evE F G' (.glb x) en st = glbK (G' x) st := by simp only [evE]; cases G' x <;> rfl
theorem k_glb {d : PyData} : glbK (some d) st = .ok (.dat d, st) := nr rfl
theorem k_cb {d : Bool} : cbK (some d) st = .ok (.dat (.bool d), st) := nr rfl
theorem e_int {i : Int} : evE F G' (.cint i) en st = .ok (.dat (.int i), st) := by simp only [evE]
theorem e_str {i : Str} : evE F G' (.cstr i) en st = .ok (.dat (.str i), st) := by simp only [evE]
theorem e_bl {i : Bool} : evE F G' (.cbl i) en st = .ok (.dat (.bool i), st) := by simp only [evE]
theorem e_non : evE F G' .cnon en st = .ok (.dat .none, st) := by simp only [evE]
theorem e_bin {op : Operator} : evE F G' (.bin op a b) en st = binK F G' op (evE F G' a en st) b en := by simp only [evE]; unfold binK binJ; congr 1; funext ⟨x, s⟩; congr 1; funext ⟨y, s2⟩; simp only; cases binD op x y <;> rfl
theorem k_bin {op : Operator} {x : PyData} : binK F G' op (.ok (.dat x, st1)) b en = binJ op x (evE F G' b en st1) := nr rfl
theorem j_bin {op : Operator} {x y : PyData} : binJ op x (.ok (.dat y, st1)) = glbK (binD op x y) st1 := nr rfl
theorem e_neg : evE F G' (.neg a) en st = negK (evE F G' a en st) := by simp only [evE]; rfl
theorem k_neg {i : Int} : negK (.ok (.dat (.int i), st1)) = .ok (.dat (.int (-i)), st1) := nr rfl
theorem e_nt : evE F G' (.nt a) en st = ntK (evE F G' a en st) := by simp only [evE]; rfl
theorem k_nt {i : Bool} : ntK (.ok (.dat (.bool i), st1)) = .ok (.dat (.bool (!i)), st1) := nr rfl
theorem e_and : evE F G' (.andd a) en st = evAnd F G' a en st := by simp only [evE]
theorem e_or : evE F G' (.orr a) en st = evOr F G' a en st := by simp only [evE]
theorem and1 : evAnd F G' (.cons a .nil) en st = if isOwn en a then .bad else evE F G' a en st := by simp only [evAnd]
theorem and2 : evAnd F G' (.cons a (.cons b c)) en st = andK F G' (evE F G' a en st) (.cons b c) en := by simp only [evAnd]; rfl
theorem and_t : andK F G' (.ok (.dat (.bool true), st1)) a en = evAnd F G' a en st1 := nr rfl
theorem and_f : andK F G' (.ok (.dat (.bool false), st1)) a en = .ok (.dat (.bool false), st1) := nr rfl
theorem or1 : evOr F G' (.cons a .nil) en st = if isOwn en a then .bad else evE F G' a en st := by simp only [evOr]
theorem or2 : evOr F G' (.cons a (.cons b c)) en st = orK F G' (evE F G' a en st) (.cons b c) en := by simp only [evOr]; rfl
theorem or_f : orK F G' (.ok (.dat (.bool false), st1)) a en = evOr F G' a en st1 := nr rfl
theorem or_t : orK F G' (.ok (.dat (.bool true), st1)) a en = .ok (.dat (.bool true), st1) := nr rfl
theorem e_cmp {op : CmpOp} : evE F G' (.cmp op a b) en st = cmpK F G' op (evE F G' a en st) b en := by simp only [evE]; unfold cmpK cmpJ; congr 1; funext ⟨x, s⟩; congr 1; funext ⟨y, s2⟩; simp only; cases cmpD op x y <;> rfl
theorem k_cmp {op : CmpOp} {x : PyData} : cmpK F G' op (.ok (.dat x, st1)) b en = cmpJ op x (evE F G' b en st1) := nr rfl
theorem j_cmp {op : CmpOp} {x y : PyData} : cmpJ op x (.ok (.dat y, st1)) = cbK (cmpD op x y) st1 := nr rfl
theorem e_chn {o1 o2 : CmpOp} : evE F G' (.chn o1 o2 a b c) en st = chnK F G' o1 o2 (evE F G' a en st) b c en := by simp only [evE]; unfold chnK chnJ; congr 1; funext ⟨x, s⟩; congr 1; funext ⟨y, s2⟩; unfold chnL cmpJ; simp only; generalize cmpD o1 x y = t; rcases t with _ | _ | _ <;> first | rfl | (simp only; congr 1; funext ⟨z, s3⟩; simp only; generalize cmpD o2 y z = t2; cases t2 <;> rfl)
theorem k_chn {o1 o2 : CmpOp} {x : PyData} : chnK F G' o1 o2 (.ok (.dat x, st1)) b c en = chnJ F G' o1 o2 x (evE F G' b en st1) c en := nr rfl
theorem j_chn {o1 o2 : CmpOp} {x y : PyData} : chnJ F G' o1 o2 x (.ok (.dat y, st1)) c en = chnL F G' o2 y (cmpD o1 x y) c en st1 := nr rfl
theorem l_chn {o2 : CmpOp} {y : PyData} : chnL F G' o2 y (some true) c en st1 = cmpJ o2 y (evE F G' c en st1) := nr rfl
theorem l_chf {o2 : CmpOp} {y : PyData} : chnL F G' o2 y (some false) c en st1 = .ok (.dat (.bool false), st1) := nr rfl
theorem e_ite : evE F G' (.ite c a b) en st = iteK F G' (evE F G' c en st) a b en := by simp only [evE]; rfl
theorem ite_t : iteK F G' (.ok (.dat (.bool true), st1)) a b en = if isOwn en a || isOwn en b then .bad else evE F G' a en st1 := nr rfl
theorem ite_f : iteK F G' (.ok (.dat (.bool false), st1)) a b en = if isOwn en a || isOwn en b then .bad else evE F G' b en st1 := nr rfl
theorem e_tup : evE F G' (.tup a) en st = tupK (evL F G' a en st) := by simp only [evE]; unfold tupK; congr 1; funext ⟨x, s⟩; simp only; cases dats x <;> rfl
theorem k_tup {xs : List Vl} : tupK (.ok (xs, st1)) = tupJ (dats xs) st1 := nr rfl
theorem j_tup {xs : List PyData} : tupJ (some xs) st1 = if xs.length ≤ line then .ok (.dat (.tuple xs), st1) else .bad := nr rfl
theorem e_lst : evE F G' (.lst a) en st = lstK (evL F G' a en st) := by simp only [evE]; unfold lstK; congr 1; funext ⟨x, s⟩; simp only; cases dats x <;> rfl
theorem k_lst {xs : List Vl} : lstK (.ok (xs, st1)) = lstJ (dats xs) st1 := nr rfl
theorem j_lst {xs : List PyData} : lstJ (some xs) st1 = if xs.length ≤ line then .ok (.dat (.list xs), st1) else .bad := nr rfl
theorem e_idx : evE F G' (.idx a b) en st = idxK F G' (evE F G' a en st) b en := by simp only [evE]; unfold idxK idxJ; congr 1; funext ⟨x, s⟩; congr 1; funext ⟨y, s2⟩; simp only; cases idxD x y <;> rfl
theorem k_idx {x : PyData} : idxK F G' (.ok (.dat x, st1)) b en = idxJ x (evE F G' b en st1) := nr rfl
theorem j_idx {x y : PyData} : idxJ x (.ok (.dat y, st1)) = glbK (idxD x y) st1 := nr rfl
theorem e_slc : evE F G' (.slc a b c) en st = slcK F G' (evE F G' a en st) b c en := by simp only [evE]; unfold slcK slcJ slcL; congr 1; funext ⟨x, s⟩; congr 1; funext ⟨y, s2⟩; congr 1; funext ⟨z, s3⟩; simp only; cases sliceD x y z <;> rfl
theorem k_slc {x : PyData} : slcK F G' (.ok (.dat x, st1)) b c en = slcJ F G' x (evO F G' b en st1) c en := nr rfl
theorem j_slc {x : PyData} {l : Option Int} : slcJ F G' x (.ok (l, st1)) c en = slcL x l (evO F G' c en st1) := nr rfl
theorem l_slc {x : PyData} {l h : Option Int} : slcL x l (.ok (h, st1)) = glbK (sliceD x l h) st1 := nr rfl
theorem o_nil : evO F G' .nil en st = .ok (none, st) := by simp only [evO]
theorem o_one : evO F G' (.cons a .nil) en st = evOK (evE F G' a en st) := by simp only [evO]; rfl
theorem k_o {i : Int} : evOK (.ok (.dat (.int i), st1)) = .ok (some i, st1) := nr rfl
theorem e_call {f : Str} : evE F G' (.call f a) en st = callK F f (evL F G' a en st) := by simp only [evE]; rfl
theorem k_call {f : Str} {xs : List Vl} : callK F f (.ok (xs, st1)) = F f xs st1 := nr rfl
theorem e_bif {f : Str} : evE F G' (.bif f a) en st = bifK f (evR F G' a en st) := by simp only [evE]; unfold bifK; congr 1; funext ⟨x, s⟩; simp only; cases bifD f x <;> rfl
theorem k_bif {f : Str} {xs : List PyData} : bifK f (.ok (xs, st1)) = glbK (bifD f xs) st1 := nr rfl
theorem e_mth {m : Str} : evE F G' (.mth m a b) en st = mthK F G' m (evE F G' a en st) b en := by simp only [evE]; unfold mthK mthJ; congr 1; funext ⟨x, s⟩; congr 1; funext ⟨y, s2⟩; simp only; cases mthD m x y <;> rfl
theorem k_mth {m : Str} {x : PyData} : mthK F G' m (.ok (.dat x, st1)) b en = mthJ m x (evR F G' b en st1) := nr rfl
theorem j_mth {m : Str} {x : PyData} {xs : List PyData} : mthJ m x (.ok (xs, st1)) = glbK (mthD m x xs) st1 := nr rfl
theorem e_isi {t : String} : evE F G' (.isi a t) en st = isiK (evE F G' a en st) t := by simp only [evE]; unfold isiK; congr 1; funext ⟨x, s⟩; simp only; cases isiD x t <;> rfl
theorem k_isi {t : String} {x : PyData} : isiK (.ok (.dat x, st1)) t = cbK (isiD x t) st1 := nr rfl
theorem e_lc {own : List (Str × Nat)} {tg : G} : evE F G' (.lc a own tg b c) en st = lcK F G' a tg c (wipeE en (own.map (·.2))) (evI F G' b en st) := by simp only [evE]; rfl
theorem k_lc {tg : G} {xs : List PyData} : lcK F G' a tg c en (.ok (xs, st1)) = lcJ (lcT F G' a tg c en xs st1) := nr rfl
theorem j_lc {ys : List PyData} : lcJ (.ok (ys, st1)) = if ys.length ≤ line then .ok (.dat (.list ys), st1) else .bad := nr rfl
theorem lcS_eq {tg : G} {x : PyData} : lcS F G' a tg c en x st = lcE F G' a c (bindG tg x en) st := by
  unfold lcS lcE lcA
  cases bindG tg x en <;> rfl
theorem k_lce {en' : En} : lcE F G' a c (some en') st = lcA F G' a en' (evTs F G' c en' st) := nr rfl
theorem k_lca_t : lcA F G' a en (.ok (true, st1)) = if isOwn en a then .bad else lcB (evE F G' a en st1) := nr rfl
theorem k_lca_f : lcA F G' a en (.ok (false, st1)) = .ok (none, st1) := nr rfl
theorem k_lcb {x : PyData} : lcB (.ok (.dat x, st1)) = .ok (some x, st1) := nr rfl
theorem ts_nil : evTs F G' .nil en st = .ok (true, st) := by simp only [evTs]
theorem ts_one : evTs F G' (.cons a .nil) en st = toB (evE F G' a en st) := by simp only [evTs]
theorem k_tb {i : Bool} : toB (.ok (.dat (.bool i), st1)) = .ok (i, st1) := nr rfl
theorem e_dg {i : Nat} {k : Str} : evE F G' (.dget i k) en st = dgK (getS en i) k st := by simp only [evE]; unfold dgK; rcases getS en i with _ | (_ | n) | _ <;> first | rfl | (simp only; cases dGet st n k <;> rfl)
theorem k_dg {n : Nat} {k : Str} : dgK (some (.val (.dic n))) k st = glbK (dGet st n k) st := nr rfl
theorem e_dn {ks : List Str} : evE F G' (.dnew ks a) en st = dnK ks st.length (evL F G' a en (st ++ [[]])) := by simp only [evE]; rfl
theorem el_nil : evL F G' .nil en st = .ok ([], st) := by simp only [evL]
theorem el_cons : evL F G' (.cons a b) en st = if isOwn en a then .bad else evLK F G' (evE F G' a en st) b en := by simp only [evL]; rfl
theorem k_el {v : Vl} : evLK F G' (.ok (v, st1)) b en = evLJ v (evL F G' b en st1) := nr rfl
theorem j_el {v : Vl} {xs : List Vl} : evLJ v (.ok (xs, st1)) = .ok (v :: xs, st1) := nr rfl
theorem er_nil : evR F G' .nil en st = .ok ([], st) := by simp only [evR]
theorem er_cons : evR F G' (.cons a b) en st = evRK F G' (evE F G' a en st) b en := by simp only [evR]; rfl
theorem k_er {v : PyData} : evRK F G' (.ok (.dat v, st1)) b en = evRJ v (evR F G' b en st1) := nr rfl
theorem j_er {v : PyData} {xs : List PyData} : evRJ v (.ok (xs, st1)) = .ok (v :: xs, st1) := nr rfl
theorem i_r1 : evI F G' (.rng1 a) en st = r1K (evE F G' a en st) := by simp only [evI]; rfl
theorem k_r1 {j : Int} : r1K (.ok (.dat (.int j), st1)) = gd (fit62 j) (.ok (upto 0 j.toNat, st1)) := by
  show (if fit62 j = true then _ else _) = _
  cases fit62 j <;> rfl
theorem i_r2 : evI F G' (.rng2 a b) en st = r2K F G' (evE F G' a en st) b en := by simp only [evI]; rfl
theorem k_r2 {x : PyData} : r2K F G' (.ok (.dat x, st1)) b en = r2J x (evE F G' b en st1) := nr rfl
theorem j_r2 {i j : Int} : r2J (.int i) (.ok (.dat (.int j), st1)) = gd (fit62 i && fit62 j) (.ok (upto i (j - i).toNat, st1)) := by
  show (if (fit62 i && fit62 j) = true then _ else _) = _
  cases (fit62 i && fit62 j) <;> rfl
theorem i_en : evI F G' (.enm a) en st = if isOwn en a then .bad else enK (evE F G' a en st) := by simp only [evI]; rfl
theorem k_enl {l : List PyData} : enK (.ok (.dat (.list l), st1)) = .ok (enumD 0 l, st1) := nr rfl
theorem k_ent {l : List PyData} : enK (.ok (.dat (.tuple l), st1)) = .ok (enumD 0 l, st1) := nr rfl
theorem i_zp : evI F G' (.zp a b) en st = if isOwn en a || isOwn en b then .bad else zpK F G' (evE F G' a en st) b en := by simp only [evI]; rfl
theorem k_zp {x : PyData} : zpK F G' (.ok (.dat x, st1)) b en = zpJ x (evE F G' b en st1) := nr rfl
theorem j_zp {x y : PyData} : zpJ x (.ok (.dat y, st1)) = zpL x y st1 := nr rfl
theorem l_zp_ll {l m : List PyData} : zpL (.list l) (.list m) st1 = .ok (zipD l m, st1) := nr rfl
theorem l_zp_tt {l m : List PyData} : zpL (.tuple l) (.tuple m) st1 = .ok (zipD l m, st1) := nr rfl
theorem l_zp_tl {l m : List PyData} : zpL (.tuple l) (.list m) st1 = .ok (zipD l m, st1) := nr rfl
theorem l_zp_lt {l m : List PyData} : zpL (.list l) (.tuple m) st1 = .ok (zipD l m, st1) := nr rfl
theorem i_it : evI F G' (.itr a) en st = if isOwn en a then .bad else itK (evE F G' a en st) := by simp only [evI]; unfold itK; split <;> first | rfl | (congr 1; funext ⟨x, s⟩; simp only; cases itemsD x <;> rfl)
theorem k_it {x : PyData} : itK (.ok (.dat x, st1)) = itJ (itemsD x) st1 := nr rfl
theorem j_it {l : List PyData} : itJ (some l) st1 = .ok (l, st1) := nr rfl
variable {sa sb : S}
theorem s_nil : evS F G' wf .nil en st = .ok (.next en st) := by simp only [evS]
theorem s_seq : evS F G' wf (.seq sa sb) en st = seqK F G' wf (evS F G' wf sa en st) sb := by simp only [evS]; rfl
theorem k_sqn {en1 : En} : seqK F G' wf (.ok (.next en1 st1)) sb = evS F G' wf sb en1 st1 := nr rfl
theorem k_sqr {v : Vl} : seqK F G' wf (.ok (.ret v st1)) sb = .ok (.ret v st1) := nr rfl
theorem k_sqb {en1 : En} : seqK F G' wf (.ok (.brk en1 st1)) sb = .ok (.brk en1 st1) := nr rfl
theorem k_nx : nxK (some en) st = .ok (.next en st) := nr rfl
theorem s_asn {i : Nat} : evS F G' wf (.asg (.nm i) a) en st = asK i en (evA F G' false a en st) := by simp only [evS]; unfold asK; congr 1; funext ⟨x, s⟩; simp only; cases putS en i x <;> rfl
theorem s_aso {i : Nat} : evS F G' wf (.asgO i a) en st = asK i en (evA F G' true a en st) := by simp only [evS]; unfold asK; congr 1; funext ⟨x, s⟩; simp only; cases putS en i x <;> rfl
theorem ea {o : Bool} : evA F G' o a en st = if isOwn en a then .bad else evAK o (evE F G' a en st) := by unfold evA evAK; split <;> first | rfl | (congr 1; funext ⟨x, s⟩; simp only; cases asSlot o x <;> rfl)
theorem k_ea_f {v : Vl} : evAK false (.ok (v, st1)) = .ok (.val v, st1) := nr rfl
theorem k_ea_t {l : List PyData} : evAK true (.ok (.dat (.list l), st1)) = .ok (.own l, st1) := nr rfl
theorem k_as {i : Nat} {s : Slot} : asK i en (.ok (s, st1)) = nxK (putS en i s) st1 := nr rfl
theorem s_ast {g : G} : evS F G' wf (.asg (.tp g) a) en st = if isOwn en a then .bad else agK (.tp g) en (evE F G' a en st) := by simp only [evS]; unfold agK; split <;> first | rfl | (congr 1; funext ⟨x, s⟩; simp only; cases bindG (.tp g) x en <;> rfl)
theorem k_ag {g : G} {x : PyData} : agK g en (.ok (.dat x, st1)) = nxK (bindG g x en) st1 := nr rfl
theorem s_par {i j : Nat} {oi oj : Bool} : evS F G' wf (.par i j oi oj a b) en st = paK F G' i j oj b en (evA F G' oi a en st) := by simp only [evS]; unfold paK paJ; congr 1; funext ⟨x, s⟩; congr 1; funext ⟨y, s2⟩; unfold pa2; simp only; cases putS en i x <;> first | rfl | (simp only [ofO_some, ok_bind]; rename_i z; cases putS z j y <;> rfl)
theorem k_pa {i j : Nat} {oj : Bool} {s : Slot} : paK F G' i j oj b en (.ok (s, st1)) = paJ i j en s (evA F G' oj b en st1) := nr rfl
theorem j_pa {i j : Nat} {s s2 : Slot} : paJ i j en s (.ok (s2, st1)) = pa2 (putS en i s) j s2 st1 := nr rfl
theorem l_pa {j : Nat} {s2 : Slot} : pa2 (some en) j s2 st1 = nxK (putS en j s2) st1 := nr rfl
theorem s_aug {i : Nat} {op : Operator} : evS F G' wf (.aug i op a) en st = auK F G' (getS en i) op i a en st := by simp only [evS]; unfold auK agJ; rcases getS en i with _ | (d | n) | _ <;> first | rfl | (cases d <;> first | rfl | (simp only; congr 1; funext ⟨x, s⟩; cases op <;> cases x <;> first | rfl | (simp only; rename_i u v; generalize putS _ _ _ = o; cases o <;> rfl)))
theorem k_au {i : Nat} {op : Operator} {x : Int} : auK F G' (some (.val (.dat (.int x)))) op i a en st = agJ x op i en (evE F G' a en st) := nr rfl
theorem j_aua {i : Nat} {x y : Int} : agJ x .Add i en (.ok (.dat (.int y), st1)) = nxK (putS en i (.val (.dat (.int (x + y))))) st1 := nr rfl
theorem j_aus {i : Nat} {x y : Int} : agJ x .Sub i en (.ok (.dat (.int y), st1)) = nxK (putS en i (.val (.dat (.int (x - y))))) st1 := nr rfl
theorem s_app {i : Nat} : evS F G' wf (.app i a) en st = apK F G' (getS en i) i a en st := by simp only [evS]; rfl
theorem k_ap {i : Nat} {l : List PyData} : apK F G' (some (.own l)) i a en st = if isOwn en a then .bad else apJ l i en (evE F G' a en st) := nr rfl
theorem j_ap {i : Nat} {l : List PyData} {y : PyData} : apJ l i en (.ok (.dat y, st1)) = if l.length < line then .ok (.next (en.set i (some (.own (l ++ [y])))) st1) else .bad := nr rfl
theorem s_sit {i : Nat} : evS F G' wf (.sit i a b) en st = siK F G' (getS en i) i a b en st := by simp only [evS]; rfl
theorem k_si {i : Nat} {l : List PyData} : siK F G' (some (.own l)) i a b en st = if isOwn en b then .bad else siJ F G' l i a en (evE F G' b en st) := nr rfl
theorem j_si {i : Nat} {l : List PyData} {y : PyData} : siJ F G' l i a en (.ok (.dat y, st1)) = siL l i en y (evE F G' a en st1) := nr rfl
theorem l_si {i : Nat} {l : List PyData} {y : PyData} {n : Int} : siL l i en y (.ok (.dat (.int n), st1)) = if 0 ≤ n ∧ n < l.length then .ok (.next (en.set i (some (.own (l.set n.toNat y)))) st1) else .bad := nr rfl
theorem s_a2 {i : Nat} {op : Operator} : evS F G' wf (.aug2 i a op b) en st = a2K F G' (getS en i) i a op b en st := by simp only [evS]; rfl
theorem k_a2 {i : Nat} {op : Operator} {l : List PyData} : a2K F G' (some (.own l)) i a op b en st = a2J F G' l i op b en (evE F G' a en st) := nr rfl
theorem j_a2 {i : Nat} {op : Operator} {l : List PyData} {x : PyData} : a2J F G' l i op b en (.ok (.dat x, st1)) = a2L l i en op x (evE F G' b en st1) := nr rfl
theorem l_a2 {i : Nat} {op : Operator} {l : List PyData} {x y : PyData} : a2L l i en op x (.ok (.dat y, st1)) = a2M l i en op x y st1 := nr rfl
theorem s_dp {i : Nat} {k : Str} : evS F G' wf (.dput i k a) en st = dpK F G' (getS en i) k a en st := by simp only [evS]; rfl
theorem k_dp {n : Nat} {k : Str} : dpK F G' (some (.val (.dic n))) k a en st = if isOwn en a then .bad else dpJ n k en (evE F G' a en st) := nr rfl
theorem j_dp {n : Nat} {k : Str} {y : PyData} : dpJ n k en (.ok (.dat y, st1)) = dpL st1[n]? n k y en st1 := nr rfl
theorem s_exp : evS F G' wf (.exp a) en st = exK en (evE F G' a en st) := by simp only [evS]; rfl
theorem k_ex {v : Vl} : exK en (.ok (v, st1)) = .ok (.next en st1) := nr rfl
theorem s_iff : evS F G' wf (.iff a sa sb) en st = ifK F G' wf (evE F G' a en st) sa sb en := by simp only [evS]; rfl
theorem k_ift : ifK F G' wf (.ok (.dat (.bool true), st1)) sa sb en = evS F G' wf sa en st1 := nr rfl
theorem k_iff : ifK F G' wf (.ok (.dat (.bool false), st1)) sa sb en = evS F G' wf sb en st1 := nr rfl
theorem s_for {g : G} : evS F G' wf (.forr g a sa) en st = foK F G' wf g sa en (evI F G' a en st) := by simp only [evS]; rfl
theorem k_fo {g : G} {xs : List PyData} : foK F G' wf g sa en (.ok (xs, st1)) = foT F G' wf g sa xs en st1 := nr rfl
theorem foS_eq {g : G} {x : PyData} : foS F G' wf g sa x en st = foE F G' wf sa (bindG g x en) st := by
  unfold foS foE
  cases bindG g x en <;> rfl
theorem k_foe {en' : En} : foE F G' wf sa (some en') st = evS F G' wf sa en' st := nr rfl
theorem s_whl : evS F G' wf (.whl a sa) en st = whT F G' wf a sa wf en st := by simp only [evS]; rfl
theorem s_ret : evS F G' wf (.ret a) en st = reK (evE F G' a (frz en) st) := by simp only [evS]; rfl
theorem k_re {v : Vl} : reK (.ok (v, st1)) = .ok (.ret v st1) := nr rfl
theorem s_retN : evS F G' wf .retN en st = .ok (.ret (.dat .none) st) := by simp only [evS]
theorem s_brk : evS F G' wf .brk en st = .ok (.brk en st) := by simp only [evS]
theorem s_pass : evS F G' wf .pass en st = .ok (.next en st) := by simp only [evS]
end
/-! ### ends ok, with a promise -/
def Ok {α : Type} (x : Res α) (P : α → Prop) : Prop := ∃ a, x = .ok a ∧ P a
theorem Ok.pure {α : Type} {a : α} {P : α → Prop} (h : P a) : Ok (.ok a) P := ⟨a, rfl, h⟩
theorem Ok.bind {α β : Type} {x : Res α} {f : α → Res β} {P : α → Prop} {Q : β → Prop} (h : Ok x P) (k : ∀ a, P a → Ok (f a) Q) : Ok (x.bind f) Q := by
  obtain ⟨a, rfl, p⟩ := h
  exact k a p
theorem Ok.mono {α : Type} {x : Res α} {P Q : α → Prop} (h : Ok x P) (k : ∀ a, P a → Q a) : Ok x Q := by
  obtain ⟨a, e, p⟩ := h
  exact ⟨a, e, k a p⟩
theorem Ok.eq {α : Type} {x : Res α} {a : α} (h : x = .ok a) : Ok x (fun b => b = a) := ⟨a, h, rfl⟩
theorem run_ok {wf n : Nat} {f : Str} {fn : Fn} {xs : List Vl} {st : Sto} {P : Vl × Sto → Prop} (h : tbl.lookup f = some fn) (hl : xs.length = fn.np) (hn : fn.np ≤ fn.ns) (e : Ok (evS (runF tbl glb wf n) glb wf fn.body (begin_ fn xs) st) (fun o => ∃ v st', o = .ret v st' ∧ P (v, st'))) : Ok (runF tbl glb wf (n + 1) f xs st) P := by
  obtain ⟨o, e, v, st', rfl, p⟩ := e
  exact ⟨(v, st'), run_def h hl hn e, p⟩
/-- a loop whose turns all go on -/
theorem for_ok {β : Type} {f : PyData → En → Sto → Res Out} {k : Out → Res β} {Q : β → Prop} {xs : List PyData} {en : En} {st : Sto} (I : Nat → En → Sto → Prop) (h0 : I 0 en st)
    (hs : ∀ i x en st, xs[i]? = some x → I i en st → Ok (f x en st) (fun o => ∃ en' st', o = .next en' st' ∧ I (i + 1) en' st')) (hk : ∀ en st, I xs.length en st → Ok (k (.next en st)) Q) : Ok ((forRun f xs en st).bind k) Q := by
  have key : ∀ (r : List PyData) (j : Nat) (en : En) (st : Sto), xs.drop j = r → j ≤ xs.length → I j en st → ∃ en' st', forRun f r en st = .ok (.next en' st') ∧ I xs.length en' st' := by
    intro r
    induction r with
    | nil =>
      intro j en st hd hj hI
      have : j = xs.length := by
        have := List.drop_eq_nil_iff.mp hd
        omega
      subst this
      exact ⟨en, st, rfl, hI⟩
    | cons x r ih =>
      intro j en st hd hj hI
      have hlt : j < xs.length := by
        rcases Nat.lt_or_ge j xs.length with h | h
        · exact h
        · rw [List.drop_eq_nil_of_le h] at hd; cases hd
      rw [List.drop_eq_getElem_cons hlt] at hd
      injection hd with h1 h2
      obtain ⟨o, e, en', st', rfl, hI'⟩ := hs j x en st (by rw [← h1]; exact List.getElem?_eq_getElem hlt) hI
      obtain ⟨en2, st2, e2, hI2⟩ := ih (j + 1) en' st' h2 hlt hI'
      exact ⟨en2, st2, by simp only [forRun, e, ok_bind, e2], hI2⟩
  obtain ⟨en', st', e, hI⟩ := key xs 0 en st rfl (Nat.zero_le _) h0
  rw [e]
  exact hk en' st' hI
theorem for_eq {β : Type} {f : PyData → En → Sto → Res Out} {k : Out → Res β} {r : Res β} {xs : List PyData} {en : En} {st : Sto} (I : Nat → En → Prop) (h0 : I 0 en)
    (hs : ∀ i x en, xs[i]? = some x → I i en → ∃ en', f x en st = .ok (.next en' st) ∧ I (i + 1) en') (hk : ∀ en, I xs.length en → k (.next en st) = r) : (forRun f xs en st).bind k = r := by
  have := for_ok (k := fun o => .ok o) (Q := fun o => ∃ en', o = .next en' st ∧ I xs.length en') (xs := xs) (f := f) (fun i en' st' => I i en' ∧ st' = st) ⟨h0, rfl⟩ (fun i x en' st' hx ⟨hI, hst⟩ => by
    subst hst
    obtain ⟨en2, e, hI2⟩ := hs i x en' hx hI
    exact ⟨_, e, en2, _, rfl, hI2, rfl⟩) (fun en' st' ⟨hI, hst⟩ => by subst hst; exact ⟨_, rfl, en', rfl, hI⟩)
  obtain ⟨o, e, en', rfl, hI⟩ := this
  have e' : forRun f xs en st = .ok (.next en' st) := by
    cases hh : forRun f xs en st with
    | ok a => rw [hh] at e; exact e
    | exc c d s => rw [hh] at e; cases e
    | bad => rw [hh] at e; cases e
  rw [e']
  exact hk en' hI
theorem foT_ok {F : Str → List Vl → Sto → Res (Vl × Sto)} {G' : Str → Option PyData} {wf : Nat} {g : G} {b : S} {xs : List PyData} {en : En} {st : Sto} (I : Nat → En → Sto → Prop) (h0 : I 0 en st)
    (hs : ∀ i x en st, xs[i]? = some x → I i en st → ∃ en' st', foE F G' wf b (bindG g x en) st = .ok (.next en' st') ∧ I (i + 1) en' st') : ∃ en' st', foT F G' wf g b xs en st = .ok (.next en' st') ∧ I xs.length en' st' := by
  have := for_ok (k := fun o => .ok o) (Q := fun o => ∃ en' st', o = .next en' st' ∧ I xs.length en' st') (xs := xs) (f := foS F G' wf g b) I h0 (fun i x en' st' hx hI => by
    obtain ⟨en2, st2, e, hI2⟩ := hs i x en' st' hx hI
    exact ⟨_, by rw [foS_eq]; exact e, en2, st2, rfl, hI2⟩) (fun en' st' hI => ⟨_, rfl, en', st', rfl, hI⟩)
  obtain ⟨o, e, en', st', rfl, hI⟩ := this
  refine ⟨en', st', ?_, hI⟩
  unfold foT
  cases hh : forRun (foS F G' wf g b) xs en st with
  | ok a => rw [hh] at e; exact e
  | exc c d s => rw [hh] at e; cases e
  | bad => rw [hh] at e; cases e
/-- a loop, then the rest -/
theorem foT_seq {F : Str → List Vl → Sto → Res (Vl × Sto)} {G' : Str → Option PyData} {wf : Nat} {g : G} {b q : S} {xs : List PyData} {en : En} {st : Sto} {P : Out → Prop} (I : Nat → En → Sto → Prop) (h0 : I 0 en st)
    (hs : ∀ i x en st, xs[i]? = some x → I i en st → Ok (foE F G' wf b (bindG g x en) st) (fun o => ∃ en' st', o = .next en' st' ∧ I (i + 1) en' st')) (hk : ∀ en' st', I xs.length en' st' → Ok (evS F G' wf q en' st') P) : Ok (seqK F G' wf (foT F G' wf g b xs en st) q) P := by
  obtain ⟨en', st', e, hI⟩ := foT_ok (g := g) (b := b) (F := F) (G' := G') (wf := wf) I h0 fun i x en st hx hI => by
    obtain ⟨o, e, en', st', rfl, hI'⟩ := hs i x en st hx hI
    exact ⟨en', st', e, hI'⟩
  rw [e]
  exact hk en' st' hI
/-- a loop that may return -/
theorem foT_may {F : Str → List Vl → Sto → Res (Vl × Sto)} {G' : Str → Option PyData} {wf : Nat} {g : G} {b q : S} {xs : List PyData} {en : En} {st : Sto} {P : Out → Prop} (I : Nat → En → Sto → Prop) (h0 : I 0 en st)
    (hs : ∀ i x en st, xs[i]? = some x → I i en st → Ok (foE F G' wf b (bindG g x en) st) (fun o => (∃ en' st', o = .next en' st' ∧ I (i + 1) en' st') ∨ ∃ v st', o = .ret v st' ∧ P (.ret v st'))) (hk : ∀ en' st', I xs.length en' st' → Ok (evS F G' wf q en' st') P) : Ok (seqK F G' wf (foT F G' wf g b xs en st) q) P := by
  have key : ∀ (r : List PyData) (j : Nat) (en : En) (st : Sto), xs.drop j = r → j ≤ xs.length → I j en st → Ok (seqK F G' wf (forRun (foS F G' wf g b) r en st) q) P := by
    intro r
    induction r with
    | nil =>
      intro j en st hd hj hI
      have : j = xs.length := by
        have := List.drop_eq_nil_iff.mp hd
        omega
      subst this
      exact hk en st hI
    | cons x r ih =>
      intro j en st hd hj hI
      have hlt : j < xs.length := by
        rcases Nat.lt_or_ge j xs.length with h | h
        · exact h
        · rw [List.drop_eq_nil_of_le h] at hd; cases hd
      rw [List.drop_eq_getElem_cons hlt] at hd
      injection hd with h1 h2
      obtain ⟨o, e, hh⟩ := hs j x en st (by rw [← h1]; exact List.getElem?_eq_getElem hlt) hI
      rw [← foS_eq] at e
      rcases hh with ⟨en', st', rfl, hI'⟩ | ⟨v, st', rfl, p⟩
      · simp only [forRun, e, ok_bind]
        exact ih (j + 1) en' st' h2 hlt hI'
      · simp only [forRun, e, ok_bind]
        exact ⟨_, rfl, p⟩
  exact key xs 0 en st rfl (Nat.zero_le _) h0
/-- a comprehension that leaves the store -/
theorem lc_eq {f : PyData → Sto → Res (Option PyData × Sto)} {st : Sto} (g : PyData → Option PyData) : ∀ {xs : List PyData}, (∀ x ∈ xs, f x st = .ok (g x, st)) → lcRun f xs st = .ok (xs.filterMap g, st)
  | [], _ => rfl
  | x :: r, h => by
    rw [lcRun, h x (List.mem_cons_self ..)]
    simp only [ok_bind]
    rw [lc_eq g fun y hy => h y (List.mem_cons_of_mem _ hy)]
    simp only [ok_bind]
    rw [List.filterMap_cons]
    cases g x <;> rfl
theorem lc_map {α : Type} {f : PyData → Sto → Res (Option PyData × Sto)} {st : Sto} {c : α → PyData} (g : α → PyData) {xs : List α} (h : ∀ x ∈ xs, f (c x) st = .ok (some (g x), st)) : lcRun f (xs.map c) st = .ok (xs.map g, st) := by
  induction xs with
  | nil => rfl
  | cons x r ih =>
    rw [List.map_cons, lcRun, h x (List.mem_cons_self ..)]
    simp only [ok_bind]
    rw [ih fun y hy => h y (List.mem_cons_of_mem _ hy)]
    rfl
theorem lcT_map {α : Type} {F : Str → List Vl → Sto → Res (Vl × Sto)} {G' : Str → Option PyData} {elt ifs : E} {tg : G} {en : En} {st : Sto} {c : α → PyData} (g : α → PyData) {xs : List α} (h : ∀ x ∈ xs, lcE F G' elt ifs (bindG tg (c x) en) st = .ok (some (g x), st)) : lcT F G' elt tg ifs en (xs.map c) st = .ok (xs.map g, st) := lc_map g fun x hx => by rw [lcS_eq]; exact h x hx
theorem lcT_eq {F : Str → List Vl → Sto → Res (Vl × Sto)} {G' : Str → Option PyData} {elt ifs : E} {tg : G} {en : En} {st : Sto} (g : PyData → Option PyData) {xs : List PyData} (h : ∀ x ∈ xs, lcE F G' elt ifs (bindG tg x en) st = .ok (g x, st)) : lcT F G' elt tg ifs en xs st = .ok (xs.filterMap g, st) := lc_eq g fun x hx => by rw [lcS_eq]; exact h x hx
/-- .. that changes it -/
theorem lc_ok {f : PyData → Sto → Res (Option PyData × Sto)} {I : Nat → Sto → Prop} {P : PyData → Prop} : ∀ {xs : List PyData} {i : Nat} {st : Sto}, I i st → (∀ x ∈ xs, ∀ i st, I i st → Ok (f x st) (fun p => ∃ d, p.1 = some d ∧ P d ∧ I (i + 1) p.2)) →
    Ok (lcRun f xs st) (fun p => p.1.length = xs.length ∧ (∀ d ∈ p.1, P d) ∧ I (i + xs.length) p.2)
  | [], i, st, h, _ => ⟨([], st), rfl, rfl, (fun d hd => by cases hd), h⟩
  | x :: r, i, st, h, hs => by
    obtain ⟨⟨o, st1⟩, e, d, rfl, p, h1⟩ := hs x (List.mem_cons_self ..) i st h
    obtain ⟨⟨ys, st2⟩, e2, l2, p2, h2⟩ := lc_ok (xs := r) h1 fun y hy => hs y (List.mem_cons_of_mem _ hy)
    have l2 : ys.length = r.length := l2
    refine ⟨(d :: ys, st2), ?_, by simp only [List.length_cons, l2], fun z hz => ?_, ?_⟩
    · rw [lcRun, e]
      simp only [ok_bind]
      rw [e2]
      rfl
    · rcases List.mem_cons.mp hz with rfl | hz
      · exact p
      · exact p2 z hz
    · have : i + 1 + r.length = i + (x :: r).length := by simp only [List.length_cons]; omega
      rw [← this]
      exact h2
theorem lc_ok2 {f : PyData → Sto → Res (Option PyData × Sto)} {I : Nat → Sto → Prop} {P : PyData → Prop} {N : Nat} : ∀ {xs : List PyData} {i : Nat} {st : Sto}, i + xs.length = N → I i st → (∀ x ∈ xs, ∀ i st, i < N → I i st → Ok (f x st) (fun p => ∃ d, p.1 = some d ∧ P d ∧ I (i + 1) p.2)) →
    Ok (lcRun f xs st) (fun p => p.1.length = xs.length ∧ (∀ d ∈ p.1, P d) ∧ I N p.2)
  | [], i, st, hN, h, _ => ⟨([], st), rfl, rfl, (fun d hd => by cases hd), by rw [← hN]; exact h⟩
  | x :: r, i, st, hN, h, hs => by
    rw [List.length_cons] at hN
    obtain ⟨⟨o, st1⟩, e, d, rfl, p, h1⟩ := hs x (List.mem_cons_self ..) i st (by omega) h
    obtain ⟨⟨ys, st2⟩, e2, l2, p2, h2⟩ := lc_ok2 (xs := r) (by omega) h1 fun y hy => hs y (List.mem_cons_of_mem _ hy)
    have l2 : ys.length = r.length := l2
    refine ⟨(d :: ys, st2), ?_, by simp only [List.length_cons, l2], fun z hz => ?_, h2⟩
    · rw [lcRun, e]
      simp only [ok_bind]
      rw [e2]
      rfl
    · rcases List.mem_cons.mp hz with rfl | hz
      · exact p
      · exact p2 z hz
theorem lcT_ok {F : Str → List Vl → Sto → Res (Vl × Sto)} {G' : Str → Option PyData} {elt ifs : E} {tg : G} {en : En} {st : Sto} {xs : List PyData} (I : Nat → Sto → Prop) (P : PyData → Prop) (h0 : I 0 st) (h : ∀ x ∈ xs, ∀ i st, i < xs.length → I i st → ∃ d st', lcE F G' elt ifs (bindG tg x en) st = .ok (some d, st') ∧ P d ∧ I (i + 1) st') :
    ∃ ys st', lcT F G' elt tg ifs en xs st = .ok (ys, st') ∧ ys.length = xs.length ∧ (∀ d ∈ ys, P d) ∧ I xs.length st' := by
  obtain ⟨⟨ys, st'⟩, e, h1, h2, h3⟩ := lc_ok2 (f := lcS F G' elt tg ifs en) (I := I) (P := P) (xs := xs) (N := xs.length) (by omega) h0 fun x hx i st hi hI => by
    obtain ⟨d, st', e, p, hI'⟩ := h x hx i st hi hI
    exact ⟨(some d, st'), by rw [lcS_eq]; exact e, d, rfl, p, hI'⟩
  exact ⟨ys, st', e, h1, h2, h3⟩
/-! ### data -/
theorem lay_ints : ∀ l : List Int, PyData.canLayAll0 (l.map .int) = true
  | [] => by simp only [List.map_nil, PyData.canLayAll0]
  | x :: r => by simp only [List.map_cons, PyData.canLayAll0, PyData.canLay0, lay_ints r, Bool.and_self]
theorem deep_ints : ∀ l : List Int, PyData.depthAll (l.map .int) = 0
  | [] => by simp only [List.map_nil, PyData.depthAll]
  | x :: r => by simp only [List.map_cons, PyData.depthAll, PyData.depth, deep_ints r, Nat.max_self]
theorem shaped_int (i : Int) : SeqAt.shaped (.int i) = true := by simp [SeqAt.shaped, PyData.canLay0, PyData.depth]
theorem shaped_tup (l : List Int) : SeqAt.shaped (.tuple (l.map .int)) = true := by simp [SeqAt.shaped, PyData.canLay0, PyData.depth, lay_ints, deep_ints]
theorem shaped_lst (l : List Int) : SeqAt.shaped (.list (l.map .int)) = true := by simp [SeqAt.shaped, PyData.canLay0, PyData.depth, lay_ints, deep_ints]
theorem eqv_int (i j : Int) : PyData.eqv (.int i) (.int j) = decide (i = j) := by
  simp only [PyData.eqv]
  by_cases h : i = j <;> simp [h]
theorem eqvAll_ints : ∀ l m : List Int, PyData.eqvAll (l.map .int) (m.map .int) = decide (l = m)
  | [], [] => by simp [PyData.eqvAll]
  | [], _ :: _ => by simp [PyData.eqvAll]
  | _ :: _, [] => by simp [PyData.eqvAll]
  | x :: r, y :: q => by
    simp only [List.map_cons, PyData.eqvAll, eqv_int, eqvAll_ints r q, List.cons.injEq]
    by_cases h : x = y <;> simp [h]
theorem eqv_tup (l m : List Int) : PyData.eqv (.tuple (l.map .int)) (.tuple (m.map .int)) = decide (l = m) := by simp only [PyData.eqv, eqvAll_ints]
theorem eqv_lst (l m : List Int) : PyData.eqv (.list (l.map .int)) (.list (m.map .int)) = decide (l = m) := by simp only [PyData.eqv, eqvAll_ints]
theorem ints_map : ∀ l : List Int, ints? (l.map .int) = some l
  | [] => rfl
  | x :: r => by simp only [List.map_cons, ints?, ints_map r, Option.map_some]
theorem bools_map : ∀ l : List Bool, bools? (l.map .bool) = some l
  | [] => rfl
  | x :: r => by simp only [List.map_cons, bools?, bools_map r, Option.map_some]
theorem strs_map : ∀ l : List Str, strs? (l.map .str) = some l
  | [] => rfl
  | x :: r => by simp only [List.map_cons, strs?, strs_map r, Option.map_some]
theorem upto_map (n : Nat) : upto 0 n = (List.range n).map fun i : Nat => PyData.int (i : Int) := by
  have : ∀ (n : Nat) (a : Nat), upto (a : Int) n = (List.range' a n).map fun i : Nat => PyData.int (i : Int) := by
    intro n
    induction n with
    | zero => intro a; rfl
    | succ n ih =>
      intro a
      rw [upto, List.range'_succ, List.map_cons]
      have := ih (a + 1)
      rw [← this]
      rfl
  rw [List.range_eq_range']
  exact this n 0
theorem atI_of {α : Type} {xs : List α} {j : Nat} {v : α} (h : xs[j]? = some v) : L2.atI xs (j : Int) = some v := L2.atI_nat h
section
variable {wf n : Nat} {st : Sto}
theorem s_is_whole {i a b : Int} (h1 : a ≤ i) (h2 : i ≤ b) : runF tbl glb wf (n + 1) "is_whole" [.dat (.int i), .dat (.int a), .dat (.int b)] st = .ok (.dat (.bool true), st) := by
  refine run_def (fn := fn_is_whole) rfl rfl (by decide) ?_
  show evS _ _ _ ir_is_whole [_, _, _] _ = _
  simp only [e_var, k_val, k_own, e_glb, k_glb, k_cb, e_int, e_str, e_bl, e_non, e_bin, k_bin, j_bin, e_neg, k_neg, e_nt, k_nt, e_and, e_or, and1, and2, and_t, and_f, or1, or2, or_f, or_t, e_cmp, k_cmp, j_cmp, e_chn, k_chn, j_chn, l_chn, l_chf, e_ite, ite_t, ite_f, e_tup, k_tup, j_tup, e_lst, k_lst, j_lst, e_idx, k_idx, j_idx, e_slc, k_slc, j_slc, l_slc, o_nil, o_one, k_o, e_call, k_call, e_bif, k_bif, e_mth, k_mth, j_mth, e_isi, k_isi, e_lc, k_lc, j_lc, k_lce, k_lca_t, k_lca_f, k_lcb, ts_nil, ts_one, k_tb, e_dg, k_dg, e_dn, el_nil, el_cons, k_el, j_el, er_nil, er_cons, k_er, j_er, i_r1, k_r1, i_r2, k_r2, j_r2, i_en, k_enl, k_ent, i_zp, k_zp, j_zp, l_zp_ll, l_zp_tt, l_zp_tl, l_zp_lt, i_it, k_it, j_it, s_nil, s_seq, k_sqn, k_sqr, k_sqb, k_nx, s_asn, s_aso, ea, k_ea_f, k_ea_t, k_as, s_ast, k_ag, s_par, k_pa, j_pa, l_pa, s_aug, k_au, j_aua, j_aus, s_app, k_ap, j_ap, s_sit, k_si, j_si, l_si, s_a2, k_a2, j_a2, l_a2, s_dp, k_dp, j_dp, s_exp, k_ex, s_iff, k_ift, k_iff, s_for, k_fo, k_foe, s_whl, s_ret, k_re, s_retN, s_brk, s_pass, getS_zero, getS_succ, isOwn, putS, dats, c_lt, c_le, c_gt, c_ge, c_is_none, c_is_int, c_is_str, c_is_tup, c_is_lst, c_is_bool, c_isnot_none, c_isnot_int, c_isnot_str, c_isnot_tup, c_isnot_lst, c_isnot_bool, c_in_sgn, c_eq, c_ne, eqOk_str, eqOk_sh, b_add, b_sub, b_mul, b_mod, b_div, b_addl, b_addt, b_rep, l_lst, l_tup, l_str, i_int, x_lst, x_tup, x_str, m_min, it_l, it_t, it_s, t_lst, q_lst, q_tup, bif_len, bif_int, bif_min, bif_max, bif_sum, bif_sorted, bif_all, bif_any, bif_tuple, bif_list, bif_divmod, mth_count, mth_index, mth_join, List.length_cons, List.length_nil, if_true, if_false, Bool.false_eq_true, Bool.or_false, Bool.false_or, Bool.or_self, List.set_cons_zero, List.set_cons_succ, frz, List.map_cons, List.map_nil, frzS, bG_tp, bG_nm, bGs_nil, bGs_cons, ob_some, gd_t, ob_t, n2, at20, at21, eq_self, and_self, and_true, true_and, wipeE, decide_true, decide_false, Bool.not_true, Bool.not_false, isi_none_int, isi_none_bool, isi_none_str, isi_none_tuple, isi_none_list, isi_bool_int, isi_bool_bool, isi_bool_str, isi_bool_tuple, isi_bool_list, isi_int_int, isi_int_bool, isi_int_str, isi_int_tuple, isi_int_list, isi_str_int, isi_str_bool, isi_str_str, isi_str_tuple, isi_str_list, isi_tuple_int, isi_tuple_bool, isi_tuple_str, isi_tuple_tuple, isi_tuple_list, isi_list_int, isi_list_bool, isi_list_str, isi_list_tuple, isi_list_list, Option.map_some, ir_is_whole, h1, h2]
theorem s_need_number {i : Int} (h1 : 0 ≤ i) (h2 : i ≤ 10 ^ 30) : runF tbl glb wf (n + 2) "need_number" [.dat (.int i)] st = .ok (.dat (.int i), st) := by
  refine run_def (fn := fn_need_number) rfl rfl (by decide) ?_
  show evS _ _ _ ir_need_number [_] _ = _
  simp only [e_var, k_val, k_own, e_glb, k_glb, k_cb, e_int, e_str, e_bl, e_non, e_bin, k_bin, j_bin, e_neg, k_neg, e_nt, k_nt, e_and, e_or, and1, and2, and_t, and_f, or1, or2, or_f, or_t, e_cmp, k_cmp, j_cmp, e_chn, k_chn, j_chn, l_chn, l_chf, e_ite, ite_t, ite_f, e_tup, k_tup, j_tup, e_lst, k_lst, j_lst, e_idx, k_idx, j_idx, e_slc, k_slc, j_slc, l_slc, o_nil, o_one, k_o, e_call, k_call, e_bif, k_bif, e_mth, k_mth, j_mth, e_isi, k_isi, e_lc, k_lc, j_lc, k_lce, k_lca_t, k_lca_f, k_lcb, ts_nil, ts_one, k_tb, e_dg, k_dg, e_dn, el_nil, el_cons, k_el, j_el, er_nil, er_cons, k_er, j_er, i_r1, k_r1, i_r2, k_r2, j_r2, i_en, k_enl, k_ent, i_zp, k_zp, j_zp, l_zp_ll, l_zp_tt, l_zp_tl, l_zp_lt, i_it, k_it, j_it, s_nil, s_seq, k_sqn, k_sqr, k_sqb, k_nx, s_asn, s_aso, ea, k_ea_f, k_ea_t, k_as, s_ast, k_ag, s_par, k_pa, j_pa, l_pa, s_aug, k_au, j_aua, j_aus, s_app, k_ap, j_ap, s_sit, k_si, j_si, l_si, s_a2, k_a2, j_a2, l_a2, s_dp, k_dp, j_dp, s_exp, k_ex, s_iff, k_ift, k_iff, s_for, k_fo, k_foe, s_whl, s_ret, k_re, s_retN, s_brk, s_pass, getS_zero, getS_succ, isOwn, putS, dats, c_lt, c_le, c_gt, c_ge, c_is_none, c_is_int, c_is_str, c_is_tup, c_is_lst, c_is_bool, c_isnot_none, c_isnot_int, c_isnot_str, c_isnot_tup, c_isnot_lst, c_isnot_bool, c_in_sgn, c_eq, c_ne, eqOk_str, eqOk_sh, b_add, b_sub, b_mul, b_mod, b_div, b_addl, b_addt, b_rep, l_lst, l_tup, l_str, i_int, x_lst, x_tup, x_str, m_min, it_l, it_t, it_s, t_lst, q_lst, q_tup, bif_len, bif_int, bif_min, bif_max, bif_sum, bif_sorted, bif_all, bif_any, bif_tuple, bif_list, bif_divmod, mth_count, mth_index, mth_join, List.length_cons, List.length_nil, if_true, if_false, Bool.false_eq_true, Bool.or_false, Bool.false_or, Bool.or_self, List.set_cons_zero, List.set_cons_succ, frz, List.map_cons, List.map_nil, frzS, bG_tp, bG_nm, bGs_nil, bGs_cons, ob_some, gd_t, ob_t, n2, at20, at21, eq_self, and_self, and_true, true_and, wipeE, decide_true, decide_false, Bool.not_true, Bool.not_false, isi_none_int, isi_none_bool, isi_none_str, isi_none_tuple, isi_none_list, isi_bool_int, isi_bool_bool, isi_bool_str, isi_bool_tuple, isi_bool_list, isi_int_int, isi_int_bool, isi_int_str, isi_int_tuple, isi_int_list, isi_str_int, isi_str_bool, isi_str_str, isi_str_tuple, isi_str_list, isi_tuple_int, isi_tuple_bool, isi_tuple_str, isi_tuple_tuple, isi_tuple_list, isi_list_int, isi_list_bool, isi_list_str, isi_list_tuple, isi_list_list, Option.map_some, ir_need_number, show glb "MOST_NUMBER" = some (.int (10 ^ 30)) from rfl, s_is_whole h1 h2]
end
end Rm

set_option Elab.async false
set_option linter.all false
set_option maxRecDepth 100000
set_option maxHeartbeats 1000000
/-! Rv, mathematics: slots by number; data that can be shown and compared. -/
namespace Rm
open Rv
open PySem
theorem bif_repr (xs : List PyData) : bifD "repr" xs = reprD xs := nr rfl
theorem getS_set (en : En) (i j : Nat) (x : Option Slot) : getS (en.set i x) j = if i = j then (if i < en.length then x else none) else getS en j := by
  unfold getS
  rw [List.getElem?_set]
  by_cases h : i = j
  · subst h
    by_cases hl : i < en.length
    · simp [hl]
    · simp [hl]
  · simp [h]
theorem getS_frz (en : En) (i : Nat) : getS (frz en) i = frzS (getS en i) := by
  unfold getS frz
  rw [List.getElem?_map]
  rcases en[i]? with _ | _ | _
  · rfl
  · rfl
  · rfl
theorem length_frz (en : En) : (frz en).length = en.length := by unfold frz; rw [List.length_map]
theorem wipe_len (en : En) : ∀ vs : List Nat, (wipeE en vs).length = en.length
  | [] => rfl
  | v :: vs => by rw [wipeE, List.length_set, wipe_len en vs]
theorem getS_wipe (en : En) (i : Nat) (vs : List Nat) (v : Nat) : getS (wipeE en (v :: vs)) i = if v = i then none else getS (wipeE en vs) i := by
  rw [wipeE, getS_set]
  by_cases h : v = i
  · rw [if_pos h, if_pos h]; split <;> rfl
  · rw [if_neg h, if_neg h]
theorem wipe_nil (en : En) : wipeE en [] = en := nr rfl
theorem fit_lit {n : Nat} (h : n < 1000000000000000000000000000000000) : fitI (no_index (OfNat.ofNat n : Int)) = true := decide_eq_true (by
  show n < 2 ^ 400
  exact Nat.lt_trans h (by decide))
theorem fit62_lit {n : Nat} (h : n < 4611686018427387904) : fit62 (no_index (OfNat.ofNat n : Int)) = true := by
  have h2 : ((n : Nat) : Int) < 2 ^ 62 := by omega
  exact decide_eq_true ⟨by show -(2 ^ 62) ≤ ((n : Nat) : Int); omega, h2⟩
/-! ### what a solver of numbers may answer -/
theorem ite_line {α : Type} {n : Nat} {a b : α} (h : n ≤ 16777216) : (if n ≤ 16777216 then a else b) = a := if_pos h
theorem ite_ltline {α : Type} {n : Nat} {a b : α} (h : n < 16777216) : (if n < 16777216 then a else b) = a := if_pos h
theorem fit62_of {i : Int} (h1 : -4611686018427387904 ≤ i) (h2 : i < 4611686018427387904) : fit62 i = true := decide_eq_true ⟨h1, h2⟩
theorem fitI_of {i : Int} (h1 : -1000000000000000000000000000000000 < i) (h2 : i < 1000000000000000000000000000000000) : fitI i = true := decide_eq_true (by
  have : i.natAbs < 1000000000000000000000000000000000 := by omega
  exact Nat.lt_trans this (by decide))
theorem ite_and {α : Type} {p q : Prop} [Decidable (p ∧ q)] {a b : α} (h1 : p) (h2 : q) : (if p ∧ q then a else b) = a := if_pos ⟨h1, h2⟩
theorem mod_pos {α : Type} {j : Int} {a b : α} (h : 0 < j) : (if 0 < j then a else b) = a := if_pos h
theorem dec_le {a b : Int} (h : a ≤ b) : decide (a ≤ b) = true := decide_eq_true h
theorem dec_nle {a b : Int} (h : b < a) : decide (a ≤ b) = false := decide_eq_false (by omega)
theorem dec_lt {a b : Int} (h : a < b) : decide (a < b) = true := decide_eq_true h
theorem dec_nlt {a b : Int} (h : b ≤ a) : decide (a < b) = false := decide_eq_false (by omega)
theorem dec_eq {a b : Int} (h : a = b) : decide (a = b) = true := decide_eq_true h
theorem dec_neq {a b : Int} (h : a < b ∨ b < a) : decide (a = b) = false := decide_eq_false (by omega)
theorem ite_le {α : Type} {a b : Int} {x y : α} (h : a ≤ b) : (if a ≤ b then x else y) = x := if_pos h
theorem ite_nle {α : Type} {a b : Int} {x y : α} (h : b < a) : (if a ≤ b then x else y) = y := if_neg (by omega)
theorem ite_lt {α : Type} {a b : Int} {x y : α} (h : a < b) : (if a < b then x else y) = x := if_pos h
theorem ite_nlt {α : Type} {a b : Int} {x y : α} (h : b ≤ a) : (if a < b then x else y) = y := if_neg (by omega)
/-! ### data that can be shown and compared -/
def szI : Nat := 140
mutual
def sz : PyData → Nat
  | .none | .bool _ => 1
  | .int _ => szI
  | .str x => 1 + x.length
  | .list xs | .tuple xs => 1 + szs xs
  | .dict _ => 0
def szs : List PyData → Nat
  | [] => 0
  | x :: xs => sz x + 1 + szs xs
end
mutual
def okD : PyData → Bool
  | .none | .bool _ => true
  | .int i => decide (i.natAbs < 10 ^ 40)
  | .str x => (txt x).all fun c => decide (c < 128)
  | .list xs | .tuple xs => okDs xs
  | .dict _ => false
def okDs : List PyData → Bool
  | [] => true
  | x :: xs => okD x && okDs xs
end
theorem log40 {i : Nat} (h : i < 10 ^ 40) : i.log2 < 133 := by
  rcases Nat.eq_zero_or_pos i with rfl | hp
  · decide
  · rw [Nat.log2_lt (by omega)]
    exact Nat.lt_of_lt_of_le h (by decide)
theorem txt_all {x : Str} {p : Nat → Bool} (h : (txt x).all p = true) : ∀ c ∈ x.cps.toList, p c = true := List.all_eq_true.mp h
mutual
theorem ok_lay : ∀ d : PyData, okD d = true → d.canLay0 = true
  | .none, _ => by simp only [PyData.canLay0]
  | .bool _, _ => by simp only [PyData.canLay0]
  | .int _, _ => by simp only [PyData.canLay0]
  | .str x, h => by
    simp only [okD] at h
    simp only [PyData.canLay0, PyData.strOk]
    refine Array.all_eq_true_iff_forall_mem.mpr fun c hc => ?_
    have := txt_all h c (Array.mem_toList_iff.mpr hc)
    simp only [decide_eq_true_eq] at this ⊢
    omega
  | .list xs, h => by simp only [okD] at h; simp only [PyData.canLay0]; exact oks_lay xs h
  | .tuple xs, h => by simp only [okD] at h; simp only [PyData.canLay0]; exact oks_lay xs h
  | .dict _, h => by simp only [okD, Bool.false_eq_true] at h
theorem oks_lay : ∀ xs : List PyData, okDs xs = true → PyData.canLayAll0 xs = true
  | [], _ => by simp only [PyData.canLayAll0]
  | x :: xs, h => by
    simp only [okDs, Bool.and_eq_true] at h
    simp only [PyData.canLayAll0, ok_lay x h.1, oks_lay xs h.2, Bool.and_self]
end
mutual
theorem ok_show : ∀ d : PyData, okD d = true → d.showable = true
  | .none, _ => by simp only [PyData.showable]
  | .bool _, _ => by simp only [PyData.showable]
  | .int i, h => by
    simp only [okD, decide_eq_true_eq] at h
    simp only [PyData.showable, decide_eq_true_eq]
    have := log40 h
    omega
  | .str x, h => by simp only [PyData.showable]
  | .list xs, h => by simp only [okD] at h; simp only [PyData.showable]; exact oks_show xs h
  | .tuple xs, h => by simp only [okD] at h; simp only [PyData.showable]; exact oks_show xs h
  | .dict _, h => by simp only [okD, Bool.false_eq_true] at h
theorem oks_show : ∀ xs : List PyData, okDs xs = true → PyData.showableAll xs = true
  | [], _ => by simp only [PyData.showableAll]
  | x :: xs, h => by
    simp only [okDs, Bool.and_eq_true] at h
    simp only [PyData.showableAll, ok_show x h.1, oks_show xs h.2, Bool.and_self]
end
theorem int_short {i : Int} (h : i.natAbs < 10 ^ 40) : (PyData.shown (.int i)).length ≤ 41 := by
  have e := int_text_length_le10 (k := 40) (by decide) h
  show (Str.ofString (toString i)).length ≤ 41
  rw [ofString_length]; exact e
mutual
theorem ok_short : ∀ d : PyData, okD d = true → d.leavesShort 41 = true
  | .none, _ => rfl
  | .bool _, _ => rfl
  | .int i, h => by
    simp only [okD, decide_eq_true_eq] at h
    simp only [PyData.leavesShort, decide_eq_true_eq]
    exact int_short h
  | .str x, h => by
    simp only [okD] at h
    simp only [PyData.leavesShort, List.all_eq_true, decide_eq_true_eq]
    intro c hc
    have := txt_all h c hc
    simp only [decide_eq_true_eq] at this
    have e : (16 : Nat) ^ 8 = 4294967296 := by decide
    omega
  | .list xs, h => by simp only [okD] at h; simp only [PyData.leavesShort]; exact oks_short xs h
  | .tuple xs, h => by simp only [okD] at h; simp only [PyData.leavesShort]; exact oks_short xs h
  | .dict _, h => by simp only [okD, Bool.false_eq_true] at h
theorem oks_short : ∀ xs : List PyData, okDs xs = true → PyData.leavesShortAll 41 xs = true
  | [], _ => rfl
  | x :: xs, h => by
    simp only [okDs, Bool.and_eq_true] at h
    simp only [PyData.leavesShortAll, ok_short x h.1, oks_short xs h.2, Bool.and_self]
end
mutual
theorem ok_weight : ∀ d : PyData, okD d = true → d.weight ≤ sz d
  | .none, _ => by simp only [PyData.weight, sz]; omega
  | .bool _, _ => by simp only [PyData.weight, sz]; omega
  | .int i, h => by
    simp only [okD, decide_eq_true_eq] at h
    have := log40 h
    simp only [PyData.weight, sz, szI]
    split <;> omega
  | .str x, h => by
    simp only [PyData.weight, sz]
    show x.cps.size ≤ 1 + x.cps.size
    omega
  | .list xs, h => by simp only [okD] at h; simp only [PyData.weight, sz]; have := oks_weight xs h; omega
  | .tuple xs, h => by simp only [okD] at h; simp only [PyData.weight, sz]; have := oks_weight xs h; omega
  | .dict _, h => by simp only [okD, Bool.false_eq_true] at h
theorem oks_weight : ∀ xs : List PyData, okDs xs = true → PyData.weightAll xs ≤ szs xs
  | [], _ => by simp only [PyData.weightAll, szs]; omega
  | x :: xs, h => by
    simp only [okDs, Bool.and_eq_true] at h
    have h1 := ok_weight x h.1
    have h2 := oks_weight xs h.2
    simp only [PyData.weightAll, szs]
    omega
end
/-- nice: at most so deep, at most so great -/
structure Ni (D B : Nat) (d : PyData) : Prop where
  ok : okD d = true
  dep : d.depth ≤ D
  le : sz d ≤ B
theorem Ni.mono {D D' B B' : Nat} {d : PyData} (h : Ni D B d) (hD : D ≤ D') (hB : B ≤ B') : Ni D' B' d := ⟨h.ok, Nat.le_trans h.dep hD, Nat.le_trans h.le hB⟩
theorem Ni.shaped {D B : Nat} {d : PyData} (h : Ni D B d) (hD : D ≤ 64) : SeqAt.shaped d = true := by
  simp only [SeqAt.shaped, ok_lay d h.ok, Bool.true_and, decide_eq_true_eq]
  exact Nat.le_trans h.dep hD
theorem Ni.repr {D B : Nat} {d : PyData} (h : Ni D B d) (hD : D ≤ 50) (hB : B ≤ 380000) : reprD [d] = some (.str d.shown) := by
  have h1 := PyData.shown_le 41 (by decide) d (ok_short d h.ok)
  have h2 := ok_weight d h.ok
  have h3 := h.le
  have h4 : d.shown.length ≤ line := by show _ ≤ 16777216; omega
  simp only [reprD, ok_show d h.ok, PyData.hasDict_of_canLay d (ok_lay d h.ok), Bool.not_false, Bool.and_self, Bool.true_and, decide_eq_true (Nat.le_trans h.dep hD), decide_eq_true h4, if_true]
theorem Ni.none : Ni 0 1 .none := ⟨by simp only [okD], by simp only [PyData.depth]; omega, by simp only [sz]; omega⟩
theorem Ni.bool (b : Bool) : Ni 0 1 (.bool b) := ⟨by simp only [okD], by simp only [PyData.depth]; omega, by simp only [sz]; omega⟩
theorem Ni.int {i : Int} (h : i.natAbs < 10 ^ 40) : Ni 0 140 (.int i) := ⟨by simp only [okD, decide_eq_true_eq]; exact h, by simp only [PyData.depth]; omega, by simp only [sz, szI]; omega⟩
theorem Ni.str {x : Str} {n : Nat} (h : ∀ c ∈ txt x, c < 128) (hn : x.length ≤ n) : Ni 0 (n + 1) (.str x) :=
  ⟨by simp only [okD]; exact List.all_eq_true.mpr fun c hc => decide_eq_true (h c hc), by simp only [PyData.depth]; omega, by simp only [sz]; omega⟩
theorem nis {D B : Nat} : ∀ {l : List PyData}, (∀ x ∈ l, Ni D B x) → okDs l = true ∧ PyData.depthAll l ≤ D ∧ szs l ≤ l.length * (B + 1)
  | [], _ => ⟨by simp only [okDs], by simp only [PyData.depthAll]; omega, by simp only [szs]; omega⟩
  | x :: l, h => by
    obtain ⟨a, b, c⟩ := nis (l := l) fun y hy => h y (List.mem_cons_of_mem _ hy)
    have hx := h x (List.mem_cons_self ..)
    refine ⟨by simp only [okDs, hx.ok, a, Bool.and_self], ?_, ?_⟩
    · simp only [PyData.depthAll]
      have := hx.dep
      omega
    · simp only [szs, List.length_cons, Nat.succ_mul]
      have := hx.le
      omega
theorem Ni.list {D B n : Nat} {l : List PyData} (h : ∀ x ∈ l, Ni D B x) (hn : l.length ≤ n) : Ni (D + 1) (1 + n * (B + 1)) (.list l) := by
  obtain ⟨a, b, c⟩ := nis h
  have : l.length * (B + 1) ≤ n * (B + 1) := Nat.mul_le_mul_right _ hn
  exact ⟨by simp only [okD]; exact a, by simp only [PyData.depth]; omega, by simp only [sz]; omega⟩
theorem Ni.tuple {D B n : Nat} {l : List PyData} (h : ∀ x ∈ l, Ni D B x) (hn : l.length ≤ n) : Ni (D + 1) (1 + n * (B + 1)) (.tuple l) := by
  obtain ⟨a, b, c⟩ := nis h
  have : l.length * (B + 1) ≤ n * (B + 1) := Nat.mul_le_mul_right _ hn
  exact ⟨by simp only [okD]; exact a, by simp only [PyData.depth]; omega, by simp only [sz]; omega⟩
theorem Ni.pair {D B : Nat} {a b : PyData} (ha : Ni D B a) (hb : Ni D B b) : Ni (D + 1) (1 + 2 * (B + 1)) (.tuple [a, b]) := Ni.tuple (fun x hx => by
  simp only [List.mem_cons, List.not_mem_nil, or_false] at hx
  rcases hx with rfl | rfl
  · exact ha
  · exact hb) (by simp)
theorem Ni.ints {n : Nat} {l : List Int} (h : ∀ i ∈ l, i.natAbs < 10 ^ 40) (hn : l.length ≤ n) : Ni 1 (1 + n * 141) (.tuple (l.map .int)) := Ni.tuple (fun x hx => by
  obtain ⟨i, hi, rfl⟩ := List.mem_map.mp hx
  exact Ni.int (h i hi)) (by simpa using hn)
theorem eqv_str (x y : Str) : PyData.eqv (.str x) (.str y) = decide (x = y) := by
  simp only [PyData.eqv]
  by_cases h : x = y
  · subst h; simp
  · rw [decide_eq_false h, beq_eq_false_iff_ne.mpr h]
/-- two showings of one thing -/
theorem repr_ne (d : PyData) : (if eqOk (.str d.shown) (.str d.shown) then some (!PyData.eqv (.str d.shown) (.str d.shown)) else none) = some false := by
  rw [eqOk_str, if_pos rfl, eqv_str, decide_eq_true rfl]; rfl
end Rm

set_option Elab.async false
set_option linter.all false
set_option maxRecDepth 100000
set_option maxHeartbeats 1000000
/-! Rv, mathematics: the program's defs over a deal. -/
namespace Rm
open Rv
open PySem
theorem Ok.toEq {α : Type} {x : Res α} {b : α} (h : Ok x (fun a => a = b)) : x = .ok b := by
  obtain ⟨a, e, rfl⟩ := h
  exact e
theorem run_eq {wf n : Nat} {f : Str} {fn : Fn} {xs : List Vl} {st st' : Sto} {v : Vl} (h : tbl.lookup f = some fn) (hl : xs.length = fn.np) (hn : fn.np ≤ fn.ns) (e : Ok (evS (runF tbl glb wf n) glb wf fn.body (begin_ fn xs) st) (fun o => o = .ret v st')) : runF tbl glb wf (n + 1) f xs st = .ok (v, st') := run_def h hl hn e.toEq
abbrev Fig := List Nat
def enc (l : Fig) : Str := ⟨(l.map (48 + ·)).toArray⟩
theorem txt_enc (l : Fig) : txt (enc l) = l.map (48 + ·) := rfl
theorem enc_len (l : Fig) : (enc l).length = l.length := by simp [enc, Str.length]
theorem txt_sgl (c : Nat) : txt (⟨#[c]⟩ : Str) = [c] := rfl
abbrev Rn := Option Int × Fig
def rnD (r : Rn) : PyData := .tuple [match r.1 with | none => .none | some k => .int k, .str (enc r.2)]
theorem rnD_none (l : Fig) : rnD (none, l) = .tuple [.none, .str (enc l)] := rfl
theorem rnD_some (k : Int) (l : Fig) : rnD (some k, l) = .tuple [.int k, .str (enc l)] := rfl
theorem digits_cut : ∀ m : Nat, m ≤ 10 → sliceD (.str "0123456789") none (some (m : Int)) = some (.str (enc (List.range m))) := by
  intro m hm
  rcases m with _ | _ | _ | _ | _ | _ | _ | _ | _ | _ | _ | m
  all_goals first | (exfalso; omega) | rfl | decide +kernel
theorem in_digits {d m : Nat} : (48 + d ∈ txt (enc (List.range m))) ↔ d < m := by
  rw [txt_enc, List.mem_map]
  constructor
  · rintro ⟨a, h, e⟩
    have := List.mem_range.mp h
    omega
  · exact fun h => ⟨d, List.mem_range.mpr h, rfl⟩
theorem le_line {n : Nat} (h : n ≤ 1000000) : n ≤ line := Nat.le_trans h (by decide)
theorem lt_line {n : Nat} (h : n ≤ 1000000) : n < line := Nat.lt_of_le_of_lt h (by decide)
theorem all_true (l : List Bool) (h : ∀ b ∈ l, b = true) : allD [.list (l.map .bool)] = some (.bool true) := by
  simp only [allD, bools_map, Option.map_some]
  congr 2
  exact List.all_eq_true.mpr fun b hb => h b hb
section
variable {wf n : Nat} {st : Sto}
def FigOk (m : Nat) (l : Fig) : Prop := l ≠ [] ∧ l.length ≤ 400 ∧ ∀ d ∈ l, d < m
theorem FigOk.pos {m : Nat} {l : Fig} (h : FigOk m l) : 1 ≤ l.length := by
  obtain ⟨h0, _, _⟩ := h
  cases l with
  | nil => exact absurd rfl h0
  | cons x r => simp
theorem gMF : glb "MOST_FIGURES" = some (.int 400) := rfl
theorem gDG : glb "DIGITS" = some (.str "0123456789") := rfl
theorem gMC : glb "MOST_COINS" = some (.int (10 ^ 12)) := rfl
theorem gMR : glb "MOST_RUNS" = some (.int 60) := rfl
theorem gMN : glb "MOST_NUMBER" = some (.int (10 ^ 30)) := rfl
theorem gMW : glb "MOST_ROW" = some (.int 1000) := rfl
theorem s_are_figures {m : Nat} {l : Fig} (hm : m ≤ 10) (h : FigOk m l) : runF tbl glb wf (n + 1) "are_figures" [.dat (.int (m : Int)), .dat (.str (enc l))] st = .ok (.dat (.bool true), st) := by
  have hl := h.pos
  obtain ⟨h0, h1, h2⟩ := h
  refine run_def (fn := fn_are_figures) rfl rfl (by decide) ?_
  show evS _ _ _ ir_are_figures [_, _, none] _ = _
  have e : ∀ x ∈ l, lcE (runF tbl glb wf n) glb (.cmp .In (.var 2) (.slc (.glb "DIGITS") .nil (.cons (.var 0) .nil))) .nil (bindG (.nm 2) (sgn (48 + x)) [some (.val (.dat (.int (m : Int)))), some (.val (.dat (.str (enc l)))), none]) st = .ok (some (.bool true), st) := fun x hx => by
    simp only [e_var, k_val, k_own, e_glb, k_glb, k_cb, e_int, e_str, e_bl, e_non, e_bin, k_bin, j_bin, e_neg, k_neg, e_nt, k_nt, e_and, e_or, and1, and2, and_t, and_f, or1, or2, or_f, or_t, e_cmp, k_cmp, j_cmp, e_chn, k_chn, j_chn, l_chn, l_chf, e_ite, ite_t, ite_f, e_tup, k_tup, j_tup, e_lst, k_lst, j_lst, e_idx, k_idx, j_idx, e_slc, k_slc, j_slc, l_slc, o_nil, o_one, k_o, e_call, k_call, e_bif, k_bif, e_mth, k_mth, j_mth, e_isi, k_isi, e_lc, k_lc, j_lc, k_lce, k_lca_t, k_lca_f, k_lcb, ts_nil, ts_one, k_tb, e_dg, k_dg, e_dn, el_nil, el_cons, k_el, j_el, er_nil, er_cons, k_er, j_er, i_r1, k_r1, i_r2, k_r2, j_r2, i_en, k_enl, k_ent, i_zp, k_zp, j_zp, l_zp_ll, l_zp_tt, l_zp_tl, l_zp_lt, i_it, k_it, j_it, s_nil, s_seq, k_sqn, k_sqr, k_sqb, k_nx, s_asn, s_aso, ea, k_ea_f, k_ea_t, k_as, s_ast, k_ag, s_par, k_pa, j_pa, l_pa, s_aug, k_au, j_aua, j_aus, s_app, k_ap, j_ap, s_sit, k_si, j_si, l_si, s_a2, k_a2, j_a2, l_a2, s_dp, k_dp, j_dp, s_exp, k_ex, s_iff, k_ift, k_iff, s_for, k_fo, k_foe, s_whl, s_ret, k_re, s_retN, s_brk, s_pass, getS_zero, getS_succ, isOwn, putS, dats, c_lt, c_le, c_gt, c_ge, c_is_none, c_is_int, c_is_str, c_is_tup, c_is_lst, c_is_bool, c_isnot_none, c_isnot_int, c_isnot_str, c_isnot_tup, c_isnot_lst, c_isnot_bool, c_in_sgn, c_eq, c_ne, eqOk_str, eqOk_sh, b_add, b_sub, b_mul, b_mod, b_div, b_addl, b_addt, b_rep, l_lst, l_tup, l_str, i_int, x_lst, x_tup, x_str, m_min, it_l, it_t, it_s, t_lst, q_lst, q_tup, bif_len, bif_int, bif_min, bif_max, bif_sum, bif_sorted, bif_all, bif_any, bif_tuple, bif_list, bif_divmod, mth_count, mth_index, mth_join, List.length_cons, List.length_nil, if_true, if_false, Bool.false_eq_true, Bool.or_false, Bool.false_or, Bool.or_self, List.set_cons_zero, List.set_cons_succ, frz, List.map_cons, List.map_nil, frzS, bG_tp, bG_nm, bGs_nil, bGs_cons, ob_some, gd_t, ob_t, n2, at20, at21, eq_self, and_self, and_true, true_and, wipeE, decide_true, decide_false, Bool.not_true, Bool.not_false, isi_none_int, isi_none_bool, isi_none_str, isi_none_tuple, isi_none_list, isi_bool_int, isi_bool_bool, isi_bool_str, isi_bool_tuple, isi_bool_list, isi_int_int, isi_int_bool, isi_int_str, isi_int_tuple, isi_int_list, isi_str_int, isi_str_bool, isi_str_str, isi_str_tuple, isi_str_list, isi_tuple_int, isi_tuple_bool, isi_tuple_str, isi_tuple_tuple, isi_tuple_list, isi_list_int, isi_list_bool, isi_list_str, isi_list_tuple, isi_list_list, Option.map_some, gDG, digits_cut m hm, in_digits, h2 x hx, show 2 < 0 + 1 + 1 + 1 by decide]
  simp only [e_var, k_val, k_own, e_glb, k_glb, k_cb, e_int, e_str, e_bl, e_non, e_bin, k_bin, j_bin, e_neg, k_neg, e_nt, k_nt, e_and, e_or, and1, and2, and_t, and_f, or1, or2, or_f, or_t, e_cmp, k_cmp, j_cmp, e_chn, k_chn, j_chn, l_chn, l_chf, e_ite, ite_t, ite_f, e_tup, k_tup, j_tup, e_lst, k_lst, j_lst, e_idx, k_idx, j_idx, e_slc, k_slc, j_slc, l_slc, o_nil, o_one, k_o, e_call, k_call, e_bif, k_bif, e_mth, k_mth, j_mth, e_isi, k_isi, e_lc, k_lc, j_lc, k_lce, k_lca_t, k_lca_f, k_lcb, ts_nil, ts_one, k_tb, e_dg, k_dg, e_dn, el_nil, el_cons, k_el, j_el, er_nil, er_cons, k_er, j_er, i_r1, k_r1, i_r2, k_r2, j_r2, i_en, k_enl, k_ent, i_zp, k_zp, j_zp, l_zp_ll, l_zp_tt, l_zp_tl, l_zp_lt, i_it, k_it, j_it, s_nil, s_seq, k_sqn, k_sqr, k_sqb, k_nx, s_asn, s_aso, ea, k_ea_f, k_ea_t, k_as, s_ast, k_ag, s_par, k_pa, j_pa, l_pa, s_aug, k_au, j_aua, j_aus, s_app, k_ap, j_ap, s_sit, k_si, j_si, l_si, s_a2, k_a2, j_a2, l_a2, s_dp, k_dp, j_dp, s_exp, k_ex, s_iff, k_ift, k_iff, s_for, k_fo, k_foe, s_whl, s_ret, k_re, s_retN, s_brk, s_pass, getS_zero, getS_succ, isOwn, putS, dats, c_lt, c_le, c_gt, c_ge, c_is_none, c_is_int, c_is_str, c_is_tup, c_is_lst, c_is_bool, c_isnot_none, c_isnot_int, c_isnot_str, c_isnot_tup, c_isnot_lst, c_isnot_bool, c_in_sgn, c_eq, c_ne, eqOk_str, eqOk_sh, b_add, b_sub, b_mul, b_mod, b_div, b_addl, b_addt, b_rep, l_lst, l_tup, l_str, i_int, x_lst, x_tup, x_str, m_min, it_l, it_t, it_s, t_lst, q_lst, q_tup, bif_len, bif_int, bif_min, bif_max, bif_sum, bif_sorted, bif_all, bif_any, bif_tuple, bif_list, bif_divmod, mth_count, mth_index, mth_join, List.length_cons, List.length_nil, if_true, if_false, Bool.false_eq_true, Bool.or_false, Bool.false_or, Bool.or_self, List.set_cons_zero, List.set_cons_succ, frz, List.map_cons, List.map_nil, frzS, bG_tp, bG_nm, bGs_nil, bGs_cons, ob_some, gd_t, ob_t, n2, at20, at21, eq_self, and_self, and_true, true_and, wipeE, decide_true, decide_false, Bool.not_true, Bool.not_false, isi_none_int, isi_none_bool, isi_none_str, isi_none_tuple, isi_none_list, isi_bool_int, isi_bool_bool, isi_bool_str, isi_bool_tuple, isi_bool_list, isi_int_int, isi_int_bool, isi_int_str, isi_int_tuple, isi_int_list, isi_str_int, isi_str_bool, isi_str_str, isi_str_tuple, isi_str_list, isi_tuple_int, isi_tuple_bool, isi_tuple_str, isi_tuple_tuple, isi_tuple_list, isi_list_int, isi_list_bool, isi_list_str, isi_list_tuple, isi_list_list, Option.map_some, ir_are_figures, enc_len, le_line (n := l.length) (by omega), gMF, show ((1 : Int) ≤ (l.length : Int)) by omega, show ((l.length : Int) ≤ 400) by omega, txt_enc, List.map_map]
  rw [show (l.map (sgn ∘ fun x => 48 + x)) = l.map (fun x => sgn (48 + x)) from rfl, lcT_map (fun _ => PyData.bool true) e]
  simp only [e_var, k_val, k_own, e_glb, k_glb, k_cb, e_int, e_str, e_bl, e_non, e_bin, k_bin, j_bin, e_neg, k_neg, e_nt, k_nt, e_and, e_or, and1, and2, and_t, and_f, or1, or2, or_f, or_t, e_cmp, k_cmp, j_cmp, e_chn, k_chn, j_chn, l_chn, l_chf, e_ite, ite_t, ite_f, e_tup, k_tup, j_tup, e_lst, k_lst, j_lst, e_idx, k_idx, j_idx, e_slc, k_slc, j_slc, l_slc, o_nil, o_one, k_o, e_call, k_call, e_bif, k_bif, e_mth, k_mth, j_mth, e_isi, k_isi, e_lc, k_lc, j_lc, k_lce, k_lca_t, k_lca_f, k_lcb, ts_nil, ts_one, k_tb, e_dg, k_dg, e_dn, el_nil, el_cons, k_el, j_el, er_nil, er_cons, k_er, j_er, i_r1, k_r1, i_r2, k_r2, j_r2, i_en, k_enl, k_ent, i_zp, k_zp, j_zp, l_zp_ll, l_zp_tt, l_zp_tl, l_zp_lt, i_it, k_it, j_it, s_nil, s_seq, k_sqn, k_sqr, k_sqb, k_nx, s_asn, s_aso, ea, k_ea_f, k_ea_t, k_as, s_ast, k_ag, s_par, k_pa, j_pa, l_pa, s_aug, k_au, j_aua, j_aus, s_app, k_ap, j_ap, s_sit, k_si, j_si, l_si, s_a2, k_a2, j_a2, l_a2, s_dp, k_dp, j_dp, s_exp, k_ex, s_iff, k_ift, k_iff, s_for, k_fo, k_foe, s_whl, s_ret, k_re, s_retN, s_brk, s_pass, getS_zero, getS_succ, isOwn, putS, dats, c_lt, c_le, c_gt, c_ge, c_is_none, c_is_int, c_is_str, c_is_tup, c_is_lst, c_is_bool, c_isnot_none, c_isnot_int, c_isnot_str, c_isnot_tup, c_isnot_lst, c_isnot_bool, c_in_sgn, c_eq, c_ne, eqOk_str, eqOk_sh, b_add, b_sub, b_mul, b_mod, b_div, b_addl, b_addt, b_rep, l_lst, l_tup, l_str, i_int, x_lst, x_tup, x_str, m_min, it_l, it_t, it_s, t_lst, q_lst, q_tup, bif_len, bif_int, bif_min, bif_max, bif_sum, bif_sorted, bif_all, bif_any, bif_tuple, bif_list, bif_divmod, mth_count, mth_index, mth_join, List.length_cons, List.length_nil, if_true, if_false, Bool.false_eq_true, Bool.or_false, Bool.false_or, Bool.or_self, List.set_cons_zero, List.set_cons_succ, frz, List.map_cons, List.map_nil, frzS, bG_tp, bG_nm, bGs_nil, bGs_cons, ob_some, gd_t, ob_t, n2, at20, at21, eq_self, and_self, and_true, true_and, wipeE, decide_true, decide_false, Bool.not_true, Bool.not_false, isi_none_int, isi_none_bool, isi_none_str, isi_none_tuple, isi_none_list, isi_bool_int, isi_bool_bool, isi_bool_str, isi_bool_tuple, isi_bool_list, isi_int_int, isi_int_bool, isi_int_str, isi_int_tuple, isi_int_list, isi_str_int, isi_str_bool, isi_str_str, isi_str_tuple, isi_str_list, isi_tuple_int, isi_tuple_bool, isi_tuple_str, isi_tuple_tuple, isi_tuple_list, isi_list_int, isi_list_bool, isi_list_str, isi_list_tuple, isi_list_list, Option.map_some, List.length_map, le_line (n := l.length) (by omega)]
  rw [show l.map (fun _ => PyData.bool true) = (l.map fun _ => true).map PyData.bool by simp, all_true _ (by simp)]
  simp only [e_var, k_val, k_own, e_glb, k_glb, k_cb, e_int, e_str, e_bl, e_non, e_bin, k_bin, j_bin, e_neg, k_neg, e_nt, k_nt, e_and, e_or, and1, and2, and_t, and_f, or1, or2, or_f, or_t, e_cmp, k_cmp, j_cmp, e_chn, k_chn, j_chn, l_chn, l_chf, e_ite, ite_t, ite_f, e_tup, k_tup, j_tup, e_lst, k_lst, j_lst, e_idx, k_idx, j_idx, e_slc, k_slc, j_slc, l_slc, o_nil, o_one, k_o, e_call, k_call, e_bif, k_bif, e_mth, k_mth, j_mth, e_isi, k_isi, e_lc, k_lc, j_lc, k_lce, k_lca_t, k_lca_f, k_lcb, ts_nil, ts_one, k_tb, e_dg, k_dg, e_dn, el_nil, el_cons, k_el, j_el, er_nil, er_cons, k_er, j_er, i_r1, k_r1, i_r2, k_r2, j_r2, i_en, k_enl, k_ent, i_zp, k_zp, j_zp, l_zp_ll, l_zp_tt, l_zp_tl, l_zp_lt, i_it, k_it, j_it, s_nil, s_seq, k_sqn, k_sqr, k_sqb, k_nx, s_asn, s_aso, ea, k_ea_f, k_ea_t, k_as, s_ast, k_ag, s_par, k_pa, j_pa, l_pa, s_aug, k_au, j_aua, j_aus, s_app, k_ap, j_ap, s_sit, k_si, j_si, l_si, s_a2, k_a2, j_a2, l_a2, s_dp, k_dp, j_dp, s_exp, k_ex, s_iff, k_ift, k_iff, s_for, k_fo, k_foe, s_whl, s_ret, k_re, s_retN, s_brk, s_pass, getS_zero, getS_succ, isOwn, putS, dats, c_lt, c_le, c_gt, c_ge, c_is_none, c_is_int, c_is_str, c_is_tup, c_is_lst, c_is_bool, c_isnot_none, c_isnot_int, c_isnot_str, c_isnot_tup, c_isnot_lst, c_isnot_bool, c_in_sgn, c_eq, c_ne, eqOk_str, eqOk_sh, b_add, b_sub, b_mul, b_mod, b_div, b_addl, b_addt, b_rep, l_lst, l_tup, l_str, i_int, x_lst, x_tup, x_str, m_min, it_l, it_t, it_s, t_lst, q_lst, q_tup, bif_len, bif_int, bif_min, bif_max, bif_sum, bif_sorted, bif_all, bif_any, bif_tuple, bif_list, bif_divmod, mth_count, mth_index, mth_join, List.length_cons, List.length_nil, if_true, if_false, Bool.false_eq_true, Bool.or_false, Bool.false_or, Bool.or_self, List.set_cons_zero, List.set_cons_succ, frz, List.map_cons, List.map_nil, frzS, bG_tp, bG_nm, bGs_nil, bGs_cons, ob_some, gd_t, ob_t, n2, at20, at21, eq_self, and_self, and_true, true_and, wipeE, decide_true, decide_false, Bool.not_true, Bool.not_false, isi_none_int, isi_none_bool, isi_none_str, isi_none_tuple, isi_none_list, isi_bool_int, isi_bool_bool, isi_bool_str, isi_bool_tuple, isi_bool_list, isi_int_int, isi_int_bool, isi_int_str, isi_int_tuple, isi_int_list, isi_str_int, isi_str_bool, isi_str_str, isi_str_tuple, isi_str_list, isi_tuple_int, isi_tuple_bool, isi_tuple_str, isi_tuple_tuple, isi_tuple_list, isi_list_int, isi_list_bool, isi_list_str, isi_list_tuple, isi_list_list, Option.map_some]
def RnOk (m : Nat) (r : Rn) : Prop := FigOk m r.2 ∧ ∀ k, r.1 = some k → 1 ≤ k ∧ k ≤ 10 ^ 12
theorem s_is_run_last {m : Nat} {l : Fig} (hm : m ≤ 10) (h : FigOk m l) : runF tbl glb wf (n + 2) "is_run" [.dat (.int (m : Int)), .dat (rnD (none, l)), .dat (.bool true)] st = .ok (.dat (.bool true), st) := by
  refine run_def (fn := fn_is_run) rfl rfl (by decide) ?_
  show evS _ _ _ ir_is_run [_, _, _] _ = _
  simp only [e_var, k_val, k_own, e_glb, k_glb, k_cb, e_int, e_str, e_bl, e_non, e_bin, k_bin, j_bin, e_neg, k_neg, e_nt, k_nt, e_and, e_or, and1, and2, and_t, and_f, or1, or2, or_f, or_t, e_cmp, k_cmp, j_cmp, e_chn, k_chn, j_chn, l_chn, l_chf, e_ite, ite_t, ite_f, e_tup, k_tup, j_tup, e_lst, k_lst, j_lst, e_idx, k_idx, j_idx, e_slc, k_slc, j_slc, l_slc, o_nil, o_one, k_o, e_call, k_call, e_bif, k_bif, e_mth, k_mth, j_mth, e_isi, k_isi, e_lc, k_lc, j_lc, k_lce, k_lca_t, k_lca_f, k_lcb, ts_nil, ts_one, k_tb, e_dg, k_dg, e_dn, el_nil, el_cons, k_el, j_el, er_nil, er_cons, k_er, j_er, i_r1, k_r1, i_r2, k_r2, j_r2, i_en, k_enl, k_ent, i_zp, k_zp, j_zp, l_zp_ll, l_zp_tt, l_zp_tl, l_zp_lt, i_it, k_it, j_it, s_nil, s_seq, k_sqn, k_sqr, k_sqb, k_nx, s_asn, s_aso, ea, k_ea_f, k_ea_t, k_as, s_ast, k_ag, s_par, k_pa, j_pa, l_pa, s_aug, k_au, j_aua, j_aus, s_app, k_ap, j_ap, s_sit, k_si, j_si, l_si, s_a2, k_a2, j_a2, l_a2, s_dp, k_dp, j_dp, s_exp, k_ex, s_iff, k_ift, k_iff, s_for, k_fo, k_foe, s_whl, s_ret, k_re, s_retN, s_brk, s_pass, getS_zero, getS_succ, isOwn, putS, dats, c_lt, c_le, c_gt, c_ge, c_is_none, c_is_int, c_is_str, c_is_tup, c_is_lst, c_is_bool, c_isnot_none, c_isnot_int, c_isnot_str, c_isnot_tup, c_isnot_lst, c_isnot_bool, c_in_sgn, c_eq, c_ne, eqOk_str, eqOk_sh, b_add, b_sub, b_mul, b_mod, b_div, b_addl, b_addt, b_rep, l_lst, l_tup, l_str, i_int, x_lst, x_tup, x_str, m_min, it_l, it_t, it_s, t_lst, q_lst, q_tup, bif_len, bif_int, bif_min, bif_max, bif_sum, bif_sorted, bif_all, bif_any, bif_tuple, bif_list, bif_divmod, mth_count, mth_index, mth_join, List.length_cons, List.length_nil, if_true, if_false, Bool.false_eq_true, Bool.or_false, Bool.false_or, Bool.or_self, List.set_cons_zero, List.set_cons_succ, frz, List.map_cons, List.map_nil, frzS, bG_tp, bG_nm, bGs_nil, bGs_cons, ob_some, gd_t, ob_t, n2, at20, at21, eq_self, and_self, and_true, true_and, wipeE, decide_true, decide_false, Bool.not_true, Bool.not_false, isi_none_int, isi_none_bool, isi_none_str, isi_none_tuple, isi_none_list, isi_bool_int, isi_bool_bool, isi_bool_str, isi_bool_tuple, isi_bool_list, isi_int_int, isi_int_bool, isi_int_str, isi_int_tuple, isi_int_list, isi_str_int, isi_str_bool, isi_str_str, isi_str_tuple, isi_str_list, isi_tuple_int, isi_tuple_bool, isi_tuple_str, isi_tuple_tuple, isi_tuple_list, isi_list_int, isi_list_bool, isi_list_str, isi_list_tuple, isi_list_list, Option.map_some, ir_is_run, rnD_none, shaped_int, eqv_int, Bool.and_self, s_are_figures hm h]
theorem s_is_run {m : Nat} {k : Int} {l : Fig} (hm : m ≤ 10) (h : FigOk m l) (h1 : 1 ≤ k) (h2 : k ≤ 10 ^ 12) : runF tbl glb wf (n + 2) "is_run" [.dat (.int (m : Int)), .dat (rnD (some k, l)), .dat (.bool false)] st = .ok (.dat (.bool true), st) := by
  refine run_def (fn := fn_is_run) rfl rfl (by decide) ?_
  show evS _ _ _ ir_is_run [_, _, _] _ = _
  simp only [e_var, k_val, k_own, e_glb, k_glb, k_cb, e_int, e_str, e_bl, e_non, e_bin, k_bin, j_bin, e_neg, k_neg, e_nt, k_nt, e_and, e_or, and1, and2, and_t, and_f, or1, or2, or_f, or_t, e_cmp, k_cmp, j_cmp, e_chn, k_chn, j_chn, l_chn, l_chf, e_ite, ite_t, ite_f, e_tup, k_tup, j_tup, e_lst, k_lst, j_lst, e_idx, k_idx, j_idx, e_slc, k_slc, j_slc, l_slc, o_nil, o_one, k_o, e_call, k_call, e_bif, k_bif, e_mth, k_mth, j_mth, e_isi, k_isi, e_lc, k_lc, j_lc, k_lce, k_lca_t, k_lca_f, k_lcb, ts_nil, ts_one, k_tb, e_dg, k_dg, e_dn, el_nil, el_cons, k_el, j_el, er_nil, er_cons, k_er, j_er, i_r1, k_r1, i_r2, k_r2, j_r2, i_en, k_enl, k_ent, i_zp, k_zp, j_zp, l_zp_ll, l_zp_tt, l_zp_tl, l_zp_lt, i_it, k_it, j_it, s_nil, s_seq, k_sqn, k_sqr, k_sqb, k_nx, s_asn, s_aso, ea, k_ea_f, k_ea_t, k_as, s_ast, k_ag, s_par, k_pa, j_pa, l_pa, s_aug, k_au, j_aua, j_aus, s_app, k_ap, j_ap, s_sit, k_si, j_si, l_si, s_a2, k_a2, j_a2, l_a2, s_dp, k_dp, j_dp, s_exp, k_ex, s_iff, k_ift, k_iff, s_for, k_fo, k_foe, s_whl, s_ret, k_re, s_retN, s_brk, s_pass, getS_zero, getS_succ, isOwn, putS, dats, c_lt, c_le, c_gt, c_ge, c_is_none, c_is_int, c_is_str, c_is_tup, c_is_lst, c_is_bool, c_isnot_none, c_isnot_int, c_isnot_str, c_isnot_tup, c_isnot_lst, c_isnot_bool, c_in_sgn, c_eq, c_ne, eqOk_str, eqOk_sh, b_add, b_sub, b_mul, b_mod, b_div, b_addl, b_addt, b_rep, l_lst, l_tup, l_str, i_int, x_lst, x_tup, x_str, m_min, it_l, it_t, it_s, t_lst, q_lst, q_tup, bif_len, bif_int, bif_min, bif_max, bif_sum, bif_sorted, bif_all, bif_any, bif_tuple, bif_list, bif_divmod, mth_count, mth_index, mth_join, List.length_cons, List.length_nil, if_true, if_false, Bool.false_eq_true, Bool.or_false, Bool.false_or, Bool.or_self, List.set_cons_zero, List.set_cons_succ, frz, List.map_cons, List.map_nil, frzS, bG_tp, bG_nm, bGs_nil, bGs_cons, ob_some, gd_t, ob_t, n2, at20, at21, eq_self, and_self, and_true, true_and, wipeE, decide_true, decide_false, Bool.not_true, Bool.not_false, isi_none_int, isi_none_bool, isi_none_str, isi_none_tuple, isi_none_list, isi_bool_int, isi_bool_bool, isi_bool_str, isi_bool_tuple, isi_bool_list, isi_int_int, isi_int_bool, isi_int_str, isi_int_tuple, isi_int_list, isi_str_int, isi_str_bool, isi_str_str, isi_str_tuple, isi_str_list, isi_tuple_int, isi_tuple_bool, isi_tuple_str, isi_tuple_tuple, isi_tuple_list, isi_list_int, isi_list_bool, isi_list_str, isi_list_tuple, isi_list_list, Option.map_some, ir_is_run, rnD_some, shaped_int, eqv_int, Bool.and_self, s_are_figures hm h, gMC, s_is_whole h1 h2]
/-- a deal -/
abbrev Rs := List (Int × Fig)
def full (rs : Rs) (l : Fig) : List Rn := rs.map (fun r => (some r.1, r.2)) ++ [(none, l)]
def psD (ps : List Str) : PyData := .tuple (ps.map .str)
def rsD (R : List Rn) : PyData := .tuple (R.map rnD)
def dealD (ps : List Str) (R : List Rn) : PyData := .tuple [psD ps, rsD R]
structure DealOk (ps : List Str) (rs : Rs) (l : Fig) : Prop where
  names : ∀ (wf n : Nat) (st : Sto), runF tbl glb wf (n + 2) "are_names" [.dat (psD ps)] st = .ok (.dat (.bool true), st)
  pos : 1 ≤ ps.length
  le : ps.length ≤ 10
  few : rs.length ≤ 50
  last : FigOk ps.length l
  each : ∀ r ∈ rs, FigOk ps.length r.2 ∧ 1 ≤ r.1 ∧ r.1 ≤ 10 ^ 12
theorem full_len (rs : Rs) (l : Fig) : (full rs l).length = rs.length + 1 := by simp [full]
theorem enumD_at (k : Nat) (l : List PyData) (i : Nat) (d : PyData) (h : l[i]? = some d) : (enumD k l)[i]? = some (.tuple [.int ((k + i : Nat) : Int), d]) := by
  induction l generalizing k i with
  | nil => simp at h
  | cons x r ih =>
    cases i with
    | zero => simp at h; subst h; simp [enumD]
    | succ i =>
      simp only [enumD, List.getElem?_cons_succ]
      rw [ih (k + 1) i (by simpa using h)]
      congr 4
      omega
theorem enumD_len (k : Nat) (l : List PyData) : (enumD k l).length = l.length := by
  induction l generalizing k with
  | nil => rfl
  | cons x r ih => simp [enumD, ih]
theorem full_at {rs : Rs} {l : Fig} {i : Nat} {d : PyData} (h : ((full rs l).map rnD)[i]? = some d) : (∃ r, rs[i]? = some r ∧ d = rnD (some r.1, r.2) ∧ i < rs.length) ∨ (d = rnD (none, l) ∧ i = rs.length) := by
  unfold full at h
  rw [List.map_append, List.map_map] at h
  by_cases hi : i < rs.length
  · rw [List.getElem?_append_left (by simpa using hi), List.getElem?_map, List.getElem?_eq_getElem hi] at h
    exact .inl ⟨rs[i], List.getElem?_eq_getElem hi, (Option.some.inj h).symm, hi⟩
  · rw [List.getElem?_append_right (by simpa using hi)] at h
    have : i - (rs.map (rnD ∘ fun r => (some r.1, r.2))).length = 0 := by
      rcases Nat.eq_zero_or_pos (i - (rs.map (rnD ∘ fun r => (some r.1, r.2))).length) with z | z
      · exact z
      · rw [List.getElem?_eq_none (by simp only [List.length_map, List.length_cons, List.length_nil] at z ⊢; omega)] at h; cases h
    rw [this] at h
    rw [List.length_map] at this
    exact .inr ⟨(Option.some.inj h).symm, by omega⟩
theorem s_need_deal {ps : List Str} {rs : Rs} {l : Fig} (h : DealOk ps rs l) : runF tbl glb wf (n + 3) "need_deal" [.dat (dealD ps (full rs l))] st = .ok (.dat (dealD ps (full rs l)), st) := by
  refine run_eq (fn := fn_need_deal) rfl rfl (by decide) ?_
  show Ok (evS _ _ _ ir_need_deal [_, none, none, none, none] _) _
  have hf := h.few
  simp only [e_var, k_val, k_own, e_glb, k_glb, k_cb, e_int, e_str, e_bl, e_non, e_bin, k_bin, j_bin, e_neg, k_neg, e_nt, k_nt, e_and, e_or, and1, and2, and_t, and_f, or1, or2, or_f, or_t, e_cmp, k_cmp, j_cmp, e_chn, k_chn, j_chn, l_chn, l_chf, e_ite, ite_t, ite_f, e_tup, k_tup, j_tup, e_lst, k_lst, j_lst, e_idx, k_idx, j_idx, e_slc, k_slc, j_slc, l_slc, o_nil, o_one, k_o, e_call, k_call, e_bif, k_bif, e_mth, k_mth, j_mth, e_isi, k_isi, e_lc, k_lc, j_lc, k_lce, k_lca_t, k_lca_f, k_lcb, ts_nil, ts_one, k_tb, e_dg, k_dg, e_dn, el_nil, el_cons, k_el, j_el, er_nil, er_cons, k_er, j_er, i_r1, k_r1, i_r2, k_r2, j_r2, i_en, k_enl, k_ent, i_zp, k_zp, j_zp, l_zp_ll, l_zp_tt, l_zp_tl, l_zp_lt, i_it, k_it, j_it, s_nil, s_seq, k_sqn, k_sqr, k_sqb, k_nx, s_asn, s_aso, ea, k_ea_f, k_ea_t, k_as, s_ast, k_ag, s_par, k_pa, j_pa, l_pa, s_aug, k_au, j_aua, j_aus, s_app, k_ap, j_ap, s_sit, k_si, j_si, l_si, s_a2, k_a2, j_a2, l_a2, s_dp, k_dp, j_dp, s_exp, k_ex, s_iff, k_ift, k_iff, s_for, k_fo, k_foe, s_whl, s_ret, k_re, s_retN, s_brk, s_pass, getS_zero, getS_succ, isOwn, putS, dats, c_lt, c_le, c_gt, c_ge, c_is_none, c_is_int, c_is_str, c_is_tup, c_is_lst, c_is_bool, c_isnot_none, c_isnot_int, c_isnot_str, c_isnot_tup, c_isnot_lst, c_isnot_bool, c_in_sgn, c_eq, c_ne, eqOk_str, eqOk_sh, b_add, b_sub, b_mul, b_mod, b_div, b_addl, b_addt, b_rep, l_lst, l_tup, l_str, i_int, x_lst, x_tup, x_str, m_min, it_l, it_t, it_s, t_lst, q_lst, q_tup, bif_len, bif_int, bif_min, bif_max, bif_sum, bif_sorted, bif_all, bif_any, bif_tuple, bif_list, bif_divmod, mth_count, mth_index, mth_join, List.length_cons, List.length_nil, if_true, if_false, Bool.false_eq_true, Bool.or_false, Bool.false_or, Bool.or_self, List.set_cons_zero, List.set_cons_succ, frz, List.map_cons, List.map_nil, frzS, bG_tp, bG_nm, bGs_nil, bGs_cons, ob_some, gd_t, ob_t, n2, at20, at21, eq_self, and_self, and_true, true_and, wipeE, decide_true, decide_false, Bool.not_true, Bool.not_false, isi_none_int, isi_none_bool, isi_none_str, isi_none_tuple, isi_none_list, isi_bool_int, isi_bool_bool, isi_bool_str, isi_bool_tuple, isi_bool_list, isi_int_int, isi_int_bool, isi_int_str, isi_int_tuple, isi_int_list, isi_str_int, isi_str_bool, isi_str_str, isi_str_tuple, isi_str_list, isi_tuple_int, isi_tuple_bool, isi_tuple_str, isi_tuple_tuple, isi_tuple_list, isi_list_int, isi_list_bool, isi_list_str, isi_list_tuple, isi_list_list, Option.map_some, ir_need_deal, dealD, shaped_int, eqv_int, Bool.and_self, show (1 < 0 + 1 + 1 + 1 + 1 + 1) by decide, show (2 < 0 + 1 + 1 + 1 + 1 + 1) by decide, h.names wf n st]
  rw [rsD]
  simp only [e_var, k_val, k_own, e_glb, k_glb, k_cb, e_int, e_str, e_bl, e_non, e_bin, k_bin, j_bin, e_neg, k_neg, e_nt, k_nt, e_and, e_or, and1, and2, and_t, and_f, or1, or2, or_f, or_t, e_cmp, k_cmp, j_cmp, e_chn, k_chn, j_chn, l_chn, l_chf, e_ite, ite_t, ite_f, e_tup, k_tup, j_tup, e_lst, k_lst, j_lst, e_idx, k_idx, j_idx, e_slc, k_slc, j_slc, l_slc, o_nil, o_one, k_o, e_call, k_call, e_bif, k_bif, e_mth, k_mth, j_mth, e_isi, k_isi, e_lc, k_lc, j_lc, k_lce, k_lca_t, k_lca_f, k_lcb, ts_nil, ts_one, k_tb, e_dg, k_dg, e_dn, el_nil, el_cons, k_el, j_el, er_nil, er_cons, k_er, j_er, i_r1, k_r1, i_r2, k_r2, j_r2, i_en, k_enl, k_ent, i_zp, k_zp, j_zp, l_zp_ll, l_zp_tt, l_zp_tl, l_zp_lt, i_it, k_it, j_it, s_nil, s_seq, k_sqn, k_sqr, k_sqb, k_nx, s_asn, s_aso, ea, k_ea_f, k_ea_t, k_as, s_ast, k_ag, s_par, k_pa, j_pa, l_pa, s_aug, k_au, j_aua, j_aus, s_app, k_ap, j_ap, s_sit, k_si, j_si, l_si, s_a2, k_a2, j_a2, l_a2, s_dp, k_dp, j_dp, s_exp, k_ex, s_iff, k_ift, k_iff, s_for, k_fo, k_foe, s_whl, s_ret, k_re, s_retN, s_brk, s_pass, getS_zero, getS_succ, isOwn, putS, dats, c_lt, c_le, c_gt, c_ge, c_is_none, c_is_int, c_is_str, c_is_tup, c_is_lst, c_is_bool, c_isnot_none, c_isnot_int, c_isnot_str, c_isnot_tup, c_isnot_lst, c_isnot_bool, c_in_sgn, c_eq, c_ne, eqOk_str, eqOk_sh, b_add, b_sub, b_mul, b_mod, b_div, b_addl, b_addt, b_rep, l_lst, l_tup, l_str, i_int, x_lst, x_tup, x_str, m_min, it_l, it_t, it_s, t_lst, q_lst, q_tup, bif_len, bif_int, bif_min, bif_max, bif_sum, bif_sorted, bif_all, bif_any, bif_tuple, bif_list, bif_divmod, mth_count, mth_index, mth_join, List.length_cons, List.length_nil, if_true, if_false, Bool.false_eq_true, Bool.or_false, Bool.false_or, Bool.or_self, List.set_cons_zero, List.set_cons_succ, frz, List.map_cons, List.map_nil, frzS, bG_tp, bG_nm, bGs_nil, bGs_cons, ob_some, gd_t, ob_t, n2, at20, at21, eq_self, and_self, and_true, true_and, wipeE, decide_true, decide_false, Bool.not_true, Bool.not_false, isi_none_int, isi_none_bool, isi_none_str, isi_none_tuple, isi_none_list, isi_bool_int, isi_bool_bool, isi_bool_str, isi_bool_tuple, isi_bool_list, isi_int_int, isi_int_bool, isi_int_str, isi_int_tuple, isi_int_list, isi_str_int, isi_str_bool, isi_str_str, isi_str_tuple, isi_str_list, isi_tuple_int, isi_tuple_bool, isi_tuple_str, isi_tuple_tuple, isi_tuple_list, isi_list_int, isi_list_bool, isi_list_str, isi_list_tuple, isi_list_list, Option.map_some, gMR, List.length_map, full_len, show (1 : Int) ≤ ((rs.length + 1 : Nat) : Int) by omega, show ((rs.length + 1 : Nat) : Int) ≤ 60 by omega]
  refine foT_seq (fun i en' st' => ∃ a b, en' = [some (.val (.dat (.tuple [psD ps, .tuple ((full rs l).map rnD)]))), some (.val (.dat (psD ps))), some (.val (.dat (.tuple ((full rs l).map rnD)))), a, b] ∧ st' = st) ⟨none, none, rfl, rfl⟩ (fun i x en' st' hx hI => ?_) (fun en' st' hI => ?_)
  · obtain ⟨a, b, rfl, rfl⟩ := hI
    have hi : i < ((full rs l).map rnD).length := by
      have := (List.getElem?_eq_some_iff.mp hx).1
      rwa [enumD_len] at this
    have hx2 := enumD_at 0 _ i _ (List.getElem?_eq_getElem hi)
    rw [hx2] at hx
    cases hx
    rcases full_at (List.getElem?_eq_getElem hi) with ⟨r, h1, h2, h3⟩ | ⟨h2, h3⟩
    · rw [h2]
      obtain ⟨f1, f2, f3⟩ := h.each r (List.mem_of_getElem? h1)
      simp only [e_var, k_val, k_own, e_glb, k_glb, k_cb, e_int, e_str, e_bl, e_non, e_bin, k_bin, j_bin, e_neg, k_neg, e_nt, k_nt, e_and, e_or, and1, and2, and_t, and_f, or1, or2, or_f, or_t, e_cmp, k_cmp, j_cmp, e_chn, k_chn, j_chn, l_chn, l_chf, e_ite, ite_t, ite_f, e_tup, k_tup, j_tup, e_lst, k_lst, j_lst, e_idx, k_idx, j_idx, e_slc, k_slc, j_slc, l_slc, o_nil, o_one, k_o, e_call, k_call, e_bif, k_bif, e_mth, k_mth, j_mth, e_isi, k_isi, e_lc, k_lc, j_lc, k_lce, k_lca_t, k_lca_f, k_lcb, ts_nil, ts_one, k_tb, e_dg, k_dg, e_dn, el_nil, el_cons, k_el, j_el, er_nil, er_cons, k_er, j_er, i_r1, k_r1, i_r2, k_r2, j_r2, i_en, k_enl, k_ent, i_zp, k_zp, j_zp, l_zp_ll, l_zp_tt, l_zp_tl, l_zp_lt, i_it, k_it, j_it, s_nil, s_seq, k_sqn, k_sqr, k_sqb, k_nx, s_asn, s_aso, ea, k_ea_f, k_ea_t, k_as, s_ast, k_ag, s_par, k_pa, j_pa, l_pa, s_aug, k_au, j_aua, j_aus, s_app, k_ap, j_ap, s_sit, k_si, j_si, l_si, s_a2, k_a2, j_a2, l_a2, s_dp, k_dp, j_dp, s_exp, k_ex, s_iff, k_ift, k_iff, s_for, k_fo, k_foe, s_whl, s_ret, k_re, s_retN, s_brk, s_pass, getS_zero, getS_succ, isOwn, putS, dats, c_lt, c_le, c_gt, c_ge, c_is_none, c_is_int, c_is_str, c_is_tup, c_is_lst, c_is_bool, c_isnot_none, c_isnot_int, c_isnot_str, c_isnot_tup, c_isnot_lst, c_isnot_bool, c_in_sgn, c_eq, c_ne, eqOk_str, eqOk_sh, b_add, b_sub, b_mul, b_mod, b_div, b_addl, b_addt, b_rep, l_lst, l_tup, l_str, i_int, x_lst, x_tup, x_str, m_min, it_l, it_t, it_s, t_lst, q_lst, q_tup, bif_len, bif_int, bif_min, bif_max, bif_sum, bif_sorted, bif_all, bif_any, bif_tuple, bif_list, bif_divmod, mth_count, mth_index, mth_join, List.length_cons, List.length_nil, if_true, if_false, Bool.false_eq_true, Bool.or_false, Bool.false_or, Bool.or_self, List.set_cons_zero, List.set_cons_succ, frz, List.map_cons, List.map_nil, frzS, bG_tp, bG_nm, bGs_nil, bGs_cons, ob_some, gd_t, ob_t, n2, at20, at21, eq_self, and_self, and_true, true_and, wipeE, decide_true, decide_false, Bool.not_true, Bool.not_false, isi_none_int, isi_none_bool, isi_none_str, isi_none_tuple, isi_none_list, isi_bool_int, isi_bool_bool, isi_bool_str, isi_bool_tuple, isi_bool_list, isi_int_int, isi_int_bool, isi_int_str, isi_int_tuple, isi_int_list, isi_str_int, isi_str_bool, isi_str_str, isi_str_tuple, isi_str_list, isi_tuple_int, isi_tuple_bool, isi_tuple_str, isi_tuple_tuple, isi_tuple_list, isi_list_int, isi_list_bool, isi_list_str, isi_list_tuple, isi_list_list, Option.map_some, psD, List.length_map, full_len, shaped_int, eqv_int, Bool.and_self, show (3 < 0 + 1 + 1 + 1 + 1 + 1) by decide, show (4 < 0 + 1 + 1 + 1 + 1 + 1) by decide, show ¬ (((0 + i : Nat) : Int) = ((rs.length + 1 : Nat) : Int) - 1) by omega, s_is_run h.le f1 f2 f3]
      exact ⟨_, rfl, _, _, rfl, _, _, rfl, rfl⟩
    · rw [h2]
      simp only [e_var, k_val, k_own, e_glb, k_glb, k_cb, e_int, e_str, e_bl, e_non, e_bin, k_bin, j_bin, e_neg, k_neg, e_nt, k_nt, e_and, e_or, and1, and2, and_t, and_f, or1, or2, or_f, or_t, e_cmp, k_cmp, j_cmp, e_chn, k_chn, j_chn, l_chn, l_chf, e_ite, ite_t, ite_f, e_tup, k_tup, j_tup, e_lst, k_lst, j_lst, e_idx, k_idx, j_idx, e_slc, k_slc, j_slc, l_slc, o_nil, o_one, k_o, e_call, k_call, e_bif, k_bif, e_mth, k_mth, j_mth, e_isi, k_isi, e_lc, k_lc, j_lc, k_lce, k_lca_t, k_lca_f, k_lcb, ts_nil, ts_one, k_tb, e_dg, k_dg, e_dn, el_nil, el_cons, k_el, j_el, er_nil, er_cons, k_er, j_er, i_r1, k_r1, i_r2, k_r2, j_r2, i_en, k_enl, k_ent, i_zp, k_zp, j_zp, l_zp_ll, l_zp_tt, l_zp_tl, l_zp_lt, i_it, k_it, j_it, s_nil, s_seq, k_sqn, k_sqr, k_sqb, k_nx, s_asn, s_aso, ea, k_ea_f, k_ea_t, k_as, s_ast, k_ag, s_par, k_pa, j_pa, l_pa, s_aug, k_au, j_aua, j_aus, s_app, k_ap, j_ap, s_sit, k_si, j_si, l_si, s_a2, k_a2, j_a2, l_a2, s_dp, k_dp, j_dp, s_exp, k_ex, s_iff, k_ift, k_iff, s_for, k_fo, k_foe, s_whl, s_ret, k_re, s_retN, s_brk, s_pass, getS_zero, getS_succ, isOwn, putS, dats, c_lt, c_le, c_gt, c_ge, c_is_none, c_is_int, c_is_str, c_is_tup, c_is_lst, c_is_bool, c_isnot_none, c_isnot_int, c_isnot_str, c_isnot_tup, c_isnot_lst, c_isnot_bool, c_in_sgn, c_eq, c_ne, eqOk_str, eqOk_sh, b_add, b_sub, b_mul, b_mod, b_div, b_addl, b_addt, b_rep, l_lst, l_tup, l_str, i_int, x_lst, x_tup, x_str, m_min, it_l, it_t, it_s, t_lst, q_lst, q_tup, bif_len, bif_int, bif_min, bif_max, bif_sum, bif_sorted, bif_all, bif_any, bif_tuple, bif_list, bif_divmod, mth_count, mth_index, mth_join, List.length_cons, List.length_nil, if_true, if_false, Bool.false_eq_true, Bool.or_false, Bool.false_or, Bool.or_self, List.set_cons_zero, List.set_cons_succ, frz, List.map_cons, List.map_nil, frzS, bG_tp, bG_nm, bGs_nil, bGs_cons, ob_some, gd_t, ob_t, n2, at20, at21, eq_self, and_self, and_true, true_and, wipeE, decide_true, decide_false, Bool.not_true, Bool.not_false, isi_none_int, isi_none_bool, isi_none_str, isi_none_tuple, isi_none_list, isi_bool_int, isi_bool_bool, isi_bool_str, isi_bool_tuple, isi_bool_list, isi_int_int, isi_int_bool, isi_int_str, isi_int_tuple, isi_int_list, isi_str_int, isi_str_bool, isi_str_str, isi_str_tuple, isi_str_list, isi_tuple_int, isi_tuple_bool, isi_tuple_str, isi_tuple_tuple, isi_tuple_list, isi_list_int, isi_list_bool, isi_list_str, isi_list_tuple, isi_list_list, Option.map_some, psD, List.length_map, full_len, shaped_int, eqv_int, Bool.and_self, show (3 < 0 + 1 + 1 + 1 + 1 + 1) by decide, show (4 < 0 + 1 + 1 + 1 + 1 + 1) by decide, show (((0 + i : Nat) : Int) = ((rs.length + 1 : Nat) : Int) - 1) by omega, s_is_run_last h.le h.last]
      exact ⟨_, rfl, _, _, rfl, _, _, rfl, rfl⟩
  · obtain ⟨a, b, rfl, rfl⟩ := hI
    simp only [e_var, k_val, k_own, e_glb, k_glb, k_cb, e_int, e_str, e_bl, e_non, e_bin, k_bin, j_bin, e_neg, k_neg, e_nt, k_nt, e_and, e_or, and1, and2, and_t, and_f, or1, or2, or_f, or_t, e_cmp, k_cmp, j_cmp, e_chn, k_chn, j_chn, l_chn, l_chf, e_ite, ite_t, ite_f, e_tup, k_tup, j_tup, e_lst, k_lst, j_lst, e_idx, k_idx, j_idx, e_slc, k_slc, j_slc, l_slc, o_nil, o_one, k_o, e_call, k_call, e_bif, k_bif, e_mth, k_mth, j_mth, e_isi, k_isi, e_lc, k_lc, j_lc, k_lce, k_lca_t, k_lca_f, k_lcb, ts_nil, ts_one, k_tb, e_dg, k_dg, e_dn, el_nil, el_cons, k_el, j_el, er_nil, er_cons, k_er, j_er, i_r1, k_r1, i_r2, k_r2, j_r2, i_en, k_enl, k_ent, i_zp, k_zp, j_zp, l_zp_ll, l_zp_tt, l_zp_tl, l_zp_lt, i_it, k_it, j_it, s_nil, s_seq, k_sqn, k_sqr, k_sqb, k_nx, s_asn, s_aso, ea, k_ea_f, k_ea_t, k_as, s_ast, k_ag, s_par, k_pa, j_pa, l_pa, s_aug, k_au, j_aua, j_aus, s_app, k_ap, j_ap, s_sit, k_si, j_si, l_si, s_a2, k_a2, j_a2, l_a2, s_dp, k_dp, j_dp, s_exp, k_ex, s_iff, k_ift, k_iff, s_for, k_fo, k_foe, s_whl, s_ret, k_re, s_retN, s_brk, s_pass, getS_zero, getS_succ, isOwn, putS, dats, c_lt, c_le, c_gt, c_ge, c_is_none, c_is_int, c_is_str, c_is_tup, c_is_lst, c_is_bool, c_isnot_none, c_isnot_int, c_isnot_str, c_isnot_tup, c_isnot_lst, c_isnot_bool, c_in_sgn, c_eq, c_ne, eqOk_str, eqOk_sh, b_add, b_sub, b_mul, b_mod, b_div, b_addl, b_addt, b_rep, l_lst, l_tup, l_str, i_int, x_lst, x_tup, x_str, m_min, it_l, it_t, it_s, t_lst, q_lst, q_tup, bif_len, bif_int, bif_min, bif_max, bif_sum, bif_sorted, bif_all, bif_any, bif_tuple, bif_list, bif_divmod, mth_count, mth_index, mth_join, List.length_cons, List.length_nil, if_true, if_false, Bool.false_eq_true, Bool.or_false, Bool.false_or, Bool.or_self, List.set_cons_zero, List.set_cons_succ, frz, List.map_cons, List.map_nil, frzS, bG_tp, bG_nm, bGs_nil, bGs_cons, ob_some, gd_t, ob_t, n2, at20, at21, eq_self, and_self, and_true, true_and, wipeE, decide_true, decide_false, Bool.not_true, Bool.not_false, isi_none_int, isi_none_bool, isi_none_str, isi_none_tuple, isi_none_list, isi_bool_int, isi_bool_bool, isi_bool_str, isi_bool_tuple, isi_bool_list, isi_int_int, isi_int_bool, isi_int_str, isi_int_tuple, isi_int_list, isi_str_int, isi_str_bool, isi_str_str, isi_str_tuple, isi_str_list, isi_tuple_int, isi_tuple_bool, isi_tuple_str, isi_tuple_tuple, isi_tuple_list, isi_list_int, isi_list_bool, isi_list_str, isi_list_tuple, isi_list_list, Option.map_some]
    exact ⟨_, rfl, rfl⟩
/-! ### counts -/
def cnt (l : Fig) (d : Nat) (c : Int) : Int := c / (l.length : Int) * ((l.count d : Nat) : Int) + (((l.take (c % (l.length : Int)).toNat).count d : Nat) : Int)
def part (o : Option Int) (c : Int) : Int := match o with
  | none => c
  | some k => if k < c then k else c
def parts : List Rn → Int → List Int
  | [], _ => []
  | r :: R, c => part r.1 c :: parts R (c - part r.1 c)
def cby : List Rn → Nat → Int → Int
  | [], _, _ => 0
  | r :: R, d, c => cnt r.2 d (part r.1 c) + cby R d (c - part r.1 c)
theorem count_enc (l : Fig) (d : Nat) : (txt (enc l)).count (48 + d) = l.count d := by
  rw [txt_enc]
  induction l with
  | nil => rfl
  | cons x r ih =>
    rw [List.map_cons, List.count_cons, List.count_cons, ih]
    congr 1
    by_cases h : x = d
    · simp [h]
    · have : ¬ (48 + x = 48 + d) := by omega
      simp [h, this]
theorem countD_sgn (z : Str) (c : Nat) : countD (.str z) [sgn c] = some (.int ((txt z).count c : Nat)) := rfl
theorem cut_take {α : Type} (xs : List α) (r : Int) (h : 0 ≤ r) : cutD xs none (some r) = xs.take r.toNat := by
  unfold cutD
  have e1 : HT.sIx xs.length 0 none = 0 := rfl
  have e2 : HT.sIx xs.length xs.length (some r) = min r.toNat xs.length := by
    show (if r < 0 then (r + (xs.length : Int)).toNat else min r.toNat xs.length) = _
    rw [if_neg (by omega)]
  rw [e1, e2, List.drop_zero, Nat.sub_zero]
  rcases Nat.le_total r.toNat xs.length with h | h
  · rw [Nat.min_eq_left h]
  · rw [Nat.min_eq_right h, List.take_of_length_le (Nat.le_refl _), List.take_of_length_le h]
theorem slice_enc {l : Fig} {r : Int} (hl : l.length ≤ 1000000) (h : 0 ≤ r) : sliceD (.str (enc l)) none (some r) = some (.str (enc (l.take r.toNat))) := by
  simp only [sliceD, enc_len, le_line hl, if_true, txt_enc, cut_take _ _ h]
  unfold enc
  rw [List.map_take]
theorem divmod_ok {i j : Int} (h : 0 < j) (hf : fitI j = true) : divmodD [.int i, .int j] = some (.tuple [.int (i / j), .int (i % j)]) := by
  simp [divmodD, h, hf]
theorem fit_of {i : Int} (h : i.natAbs < 2 ^ 400) : fitI i = true := decide_eq_true h
theorem fit_small {i : Int} (h0 : 0 ≤ i) (h : i < 2 ^ 200) : fitI i = true := fit_of (by
  have : i.natAbs < 2 ^ 200 := by omega
  exact Nat.lt_trans this (by decide))
theorem fit_nat {k : Nat} (h : k ≤ 1000000) : fitI (k : Int) = true := fit_small (by omega) (by
  have : ((k : Nat) : Int) ≤ 1000000 := by omega
  exact Int.lt_of_le_of_lt this (by decide))
theorem fit_div {c : Int} {k : Nat} (h0 : 0 ≤ c) (h : c < 2 ^ 200) (hk : 0 < k) : fitI (c / (k : Int)) = true := by
  refine fit_small (Int.ediv_nonneg h0 (by omega)) (Int.lt_of_le_of_lt (Int.ediv_le_self _ h0) h)
theorem s_count_in {l : Fig} {d : Nat} {c : Int} (h0 : l ≠ []) (hl : l.length ≤ 400) (hc : 0 ≤ c) (hb : c < 2 ^ 200) : runF tbl glb wf (n + 1) "count_in" [.dat (.str (enc l)), .dat (sgn (48 + d)), .dat (.int c)] st = .ok (.dat (.int (cnt l d c)), st) := by
  have hp : 0 < l.length := by cases l with | nil => exact absurd rfl h0 | cons x r => simp
  refine run_def (fn := fn_count_in) rfl rfl (by decide) ?_
  show evS _ _ _ ir_count_in [_, _, _, none, none] _ = _
  have hm : 0 ≤ c % (l.length : Int) := Int.emod_nonneg _ (by omega)
  simp only [e_var, k_val, k_own, e_glb, k_glb, k_cb, e_int, e_str, e_bl, e_non, e_bin, k_bin, j_bin, e_neg, k_neg, e_nt, k_nt, e_and, e_or, and1, and2, and_t, and_f, or1, or2, or_f, or_t, e_cmp, k_cmp, j_cmp, e_chn, k_chn, j_chn, l_chn, l_chf, e_ite, ite_t, ite_f, e_tup, k_tup, j_tup, e_lst, k_lst, j_lst, e_idx, k_idx, j_idx, e_slc, k_slc, j_slc, l_slc, o_nil, o_one, k_o, e_call, k_call, e_bif, k_bif, e_mth, k_mth, j_mth, e_isi, k_isi, e_lc, k_lc, j_lc, k_lce, k_lca_t, k_lca_f, k_lcb, ts_nil, ts_one, k_tb, e_dg, k_dg, e_dn, el_nil, el_cons, k_el, j_el, er_nil, er_cons, k_er, j_er, i_r1, k_r1, i_r2, k_r2, j_r2, i_en, k_enl, k_ent, i_zp, k_zp, j_zp, l_zp_ll, l_zp_tt, l_zp_tl, l_zp_lt, i_it, k_it, j_it, s_nil, s_seq, k_sqn, k_sqr, k_sqb, k_nx, s_asn, s_aso, ea, k_ea_f, k_ea_t, k_as, s_ast, k_ag, s_par, k_pa, j_pa, l_pa, s_aug, k_au, j_aua, j_aus, s_app, k_ap, j_ap, s_sit, k_si, j_si, l_si, s_a2, k_a2, j_a2, l_a2, s_dp, k_dp, j_dp, s_exp, k_ex, s_iff, k_ift, k_iff, s_for, k_fo, k_foe, s_whl, s_ret, k_re, s_retN, s_brk, s_pass, getS_zero, getS_succ, isOwn, putS, dats, c_lt, c_le, c_gt, c_ge, c_is_none, c_is_int, c_is_str, c_is_tup, c_is_lst, c_is_bool, c_isnot_none, c_isnot_int, c_isnot_str, c_isnot_tup, c_isnot_lst, c_isnot_bool, c_in_sgn, c_eq, c_ne, eqOk_str, eqOk_sh, b_add, b_sub, b_mul, b_mod, b_div, b_addl, b_addt, b_rep, l_lst, l_tup, l_str, i_int, x_lst, x_tup, x_str, m_min, it_l, it_t, it_s, t_lst, q_lst, q_tup, bif_len, bif_int, bif_min, bif_max, bif_sum, bif_sorted, bif_all, bif_any, bif_tuple, bif_list, bif_divmod, mth_count, mth_index, mth_join, List.length_cons, List.length_nil, if_true, if_false, Bool.false_eq_true, Bool.or_false, Bool.false_or, Bool.or_self, List.set_cons_zero, List.set_cons_succ, frz, List.map_cons, List.map_nil, frzS, bG_tp, bG_nm, bGs_nil, bGs_cons, ob_some, gd_t, ob_t, n2, at20, at21, eq_self, and_self, and_true, true_and, wipeE, decide_true, decide_false, Bool.not_true, Bool.not_false, isi_none_int, isi_none_bool, isi_none_str, isi_none_tuple, isi_none_list, isi_bool_int, isi_bool_bool, isi_bool_str, isi_bool_tuple, isi_bool_list, isi_int_int, isi_int_bool, isi_int_str, isi_int_tuple, isi_int_list, isi_str_int, isi_str_bool, isi_str_str, isi_str_tuple, isi_str_list, isi_tuple_int, isi_tuple_bool, isi_tuple_str, isi_tuple_tuple, isi_tuple_list, isi_list_int, isi_list_bool, isi_list_str, isi_list_tuple, isi_list_list, Option.map_some, ir_count_in, enc_len, le_line (n := l.length) (by omega), divmod_ok (i := c) (show (0 : Int) < (l.length : Int) by omega) (fit_nat (by omega)), show (3 < 0 + 1 + 1 + 1 + 1 + 1) by decide, show (4 < 0 + 1 + 1 + 1 + 1 + 1) by decide, countD_sgn, count_enc, slice_enc (l := l) (by omega) hm, fit_div hc hb hp, fit_nat (k := l.count d) (Nat.le_trans (List.count_le_length ..) (by omega)), Bool.and_self]
  rfl
theorem parts_len (R : List Rn) (c : Int) : (parts R c).length = R.length := by
  induction R generalizing c with
  | nil => rfl
  | cons r R ih => simp [parts, ih]
theorem s_parts_of {R : List Rn} {c : Int} (hR : R.length ≤ 1000) : runF tbl glb wf (n + 1) "parts_of" [.dat (rsD R), .dat (.int c)] st = .ok (.dat (.list ((parts R c).map .int)), st) := by
  refine run_eq (fn := fn_parts_of) rfl rfl (by decide) ?_
  show Ok (evS _ _ _ ir_parts_of [_, _, none, none, none, none, none] _) _
  simp only [e_var, k_val, k_own, e_glb, k_glb, k_cb, e_int, e_str, e_bl, e_non, e_bin, k_bin, j_bin, e_neg, k_neg, e_nt, k_nt, e_and, e_or, and1, and2, and_t, and_f, or1, or2, or_f, or_t, e_cmp, k_cmp, j_cmp, e_chn, k_chn, j_chn, l_chn, l_chf, e_ite, ite_t, ite_f, e_tup, k_tup, j_tup, e_lst, k_lst, j_lst, e_idx, k_idx, j_idx, e_slc, k_slc, j_slc, l_slc, o_nil, o_one, k_o, e_call, k_call, e_bif, k_bif, e_mth, k_mth, j_mth, e_isi, k_isi, e_lc, k_lc, j_lc, k_lce, k_lca_t, k_lca_f, k_lcb, ts_nil, ts_one, k_tb, e_dg, k_dg, e_dn, el_nil, el_cons, k_el, j_el, er_nil, er_cons, k_er, j_er, i_r1, k_r1, i_r2, k_r2, j_r2, i_en, k_enl, k_ent, i_zp, k_zp, j_zp, l_zp_ll, l_zp_tt, l_zp_tl, l_zp_lt, i_it, k_it, j_it, s_nil, s_seq, k_sqn, k_sqr, k_sqb, k_nx, s_asn, s_aso, ea, k_ea_f, k_ea_t, k_as, s_ast, k_ag, s_par, k_pa, j_pa, l_pa, s_aug, k_au, j_aua, j_aus, s_app, k_ap, j_ap, s_sit, k_si, j_si, l_si, s_a2, k_a2, j_a2, l_a2, s_dp, k_dp, j_dp, s_exp, k_ex, s_iff, k_ift, k_iff, s_for, k_fo, k_foe, s_whl, s_ret, k_re, s_retN, s_brk, s_pass, getS_zero, getS_succ, isOwn, putS, dats, c_lt, c_le, c_gt, c_ge, c_is_none, c_is_int, c_is_str, c_is_tup, c_is_lst, c_is_bool, c_isnot_none, c_isnot_int, c_isnot_str, c_isnot_tup, c_isnot_lst, c_isnot_bool, c_in_sgn, c_eq, c_ne, eqOk_str, eqOk_sh, b_add, b_sub, b_mul, b_mod, b_div, b_addl, b_addt, b_rep, l_lst, l_tup, l_str, i_int, x_lst, x_tup, x_str, m_min, it_l, it_t, it_s, t_lst, q_lst, q_tup, bif_len, bif_int, bif_min, bif_max, bif_sum, bif_sorted, bif_all, bif_any, bif_tuple, bif_list, bif_divmod, mth_count, mth_index, mth_join, List.length_cons, List.length_nil, if_true, if_false, Bool.false_eq_true, Bool.or_false, Bool.false_or, Bool.or_self, List.set_cons_zero, List.set_cons_succ, frz, List.map_cons, List.map_nil, frzS, bG_tp, bG_nm, bGs_nil, bGs_cons, ob_some, gd_t, ob_t, n2, at20, at21, eq_self, and_self, and_true, true_and, wipeE, decide_true, decide_false, Bool.not_true, Bool.not_false, isi_none_int, isi_none_bool, isi_none_str, isi_none_tuple, isi_none_list, isi_bool_int, isi_bool_bool, isi_bool_str, isi_bool_tuple, isi_bool_list, isi_int_int, isi_int_bool, isi_int_str, isi_int_tuple, isi_int_list, isi_str_int, isi_str_bool, isi_str_str, isi_str_tuple, isi_str_list, isi_tuple_int, isi_tuple_bool, isi_tuple_str, isi_tuple_tuple, isi_tuple_list, isi_list_int, isi_list_bool, isi_list_str, isi_list_tuple, isi_list_list, Option.map_some, ir_parts_of, rsD, show (2 < 0 + 1 + 1 + 1 + 1 + 1 + 1 + 1) by decide, show (3 < 0 + 1 + 1 + 1 + 1 + 1 + 1 + 1) by decide, show 0 ≤ line by decide]
  refine foT_seq (fun i en' st' => ∃ acc left a b p, en' = [some (.val (.dat (.tuple (R.map rnD)))), some (.val (.dat (.int c))), some (.own (acc.map .int)), some (.val (.dat (.int left))), a, b, p] ∧ st' = st ∧ acc ++ parts (R.drop i) left = parts R c) ⟨[], c, none, none, none, rfl, rfl, rfl⟩ (fun i x en' st' hx hI => ?_) (fun en' st' hI => ?_)
  · obtain ⟨acc, left, a, b, p, rfl, rfl, hq⟩ := hI
    rw [List.getElem?_map] at hx
    cases hr : R[i]? with
    | none => rw [hr] at hx; cases hx
    | some r =>
      rw [hr] at hx
      cases hx
      have hi := (List.getElem?_eq_some_iff.mp hr).1
      rw [List.drop_eq_getElem_cons hi, (List.getElem?_eq_some_iff.mp hr).2] at hq
      have hacc : acc.length ≤ 1000 := by
        have := congrArg List.length hq
        rw [List.length_append, parts_len, parts_len] at this
        omega
      obtain ⟨o, l⟩ := r
      cases o with
      | none =>
        simp only [e_var, k_val, k_own, e_glb, k_glb, k_cb, e_int, e_str, e_bl, e_non, e_bin, k_bin, j_bin, e_neg, k_neg, e_nt, k_nt, e_and, e_or, and1, and2, and_t, and_f, or1, or2, or_f, or_t, e_cmp, k_cmp, j_cmp, e_chn, k_chn, j_chn, l_chn, l_chf, e_ite, ite_t, ite_f, e_tup, k_tup, j_tup, e_lst, k_lst, j_lst, e_idx, k_idx, j_idx, e_slc, k_slc, j_slc, l_slc, o_nil, o_one, k_o, e_call, k_call, e_bif, k_bif, e_mth, k_mth, j_mth, e_isi, k_isi, e_lc, k_lc, j_lc, k_lce, k_lca_t, k_lca_f, k_lcb, ts_nil, ts_one, k_tb, e_dg, k_dg, e_dn, el_nil, el_cons, k_el, j_el, er_nil, er_cons, k_er, j_er, i_r1, k_r1, i_r2, k_r2, j_r2, i_en, k_enl, k_ent, i_zp, k_zp, j_zp, l_zp_ll, l_zp_tt, l_zp_tl, l_zp_lt, i_it, k_it, j_it, s_nil, s_seq, k_sqn, k_sqr, k_sqb, k_nx, s_asn, s_aso, ea, k_ea_f, k_ea_t, k_as, s_ast, k_ag, s_par, k_pa, j_pa, l_pa, s_aug, k_au, j_aua, j_aus, s_app, k_ap, j_ap, s_sit, k_si, j_si, l_si, s_a2, k_a2, j_a2, l_a2, s_dp, k_dp, j_dp, s_exp, k_ex, s_iff, k_ift, k_iff, s_for, k_fo, k_foe, s_whl, s_ret, k_re, s_retN, s_brk, s_pass, getS_zero, getS_succ, isOwn, putS, dats, c_lt, c_le, c_gt, c_ge, c_is_none, c_is_int, c_is_str, c_is_tup, c_is_lst, c_is_bool, c_isnot_none, c_isnot_int, c_isnot_str, c_isnot_tup, c_isnot_lst, c_isnot_bool, c_in_sgn, c_eq, c_ne, eqOk_str, eqOk_sh, b_add, b_sub, b_mul, b_mod, b_div, b_addl, b_addt, b_rep, l_lst, l_tup, l_str, i_int, x_lst, x_tup, x_str, m_min, it_l, it_t, it_s, t_lst, q_lst, q_tup, bif_len, bif_int, bif_min, bif_max, bif_sum, bif_sorted, bif_all, bif_any, bif_tuple, bif_list, bif_divmod, mth_count, mth_index, mth_join, List.length_cons, List.length_nil, if_true, if_false, Bool.false_eq_true, Bool.or_false, Bool.false_or, Bool.or_self, List.set_cons_zero, List.set_cons_succ, frz, List.map_cons, List.map_nil, frzS, bG_tp, bG_nm, bGs_nil, bGs_cons, ob_some, gd_t, ob_t, n2, at20, at21, eq_self, and_self, and_true, true_and, wipeE, decide_true, decide_false, Bool.not_true, Bool.not_false, isi_none_int, isi_none_bool, isi_none_str, isi_none_tuple, isi_none_list, isi_bool_int, isi_bool_bool, isi_bool_str, isi_bool_tuple, isi_bool_list, isi_int_int, isi_int_bool, isi_int_str, isi_int_tuple, isi_int_list, isi_str_int, isi_str_bool, isi_str_str, isi_str_tuple, isi_str_list, isi_tuple_int, isi_tuple_bool, isi_tuple_str, isi_tuple_tuple, isi_tuple_list, isi_list_int, isi_list_bool, isi_list_str, isi_list_tuple, isi_list_list, Option.map_some, rnD_none, show (3 < 0 + 1 + 1 + 1 + 1 + 1 + 1 + 1) by decide, show (4 < 0 + 1 + 1 + 1 + 1 + 1 + 1 + 1) by decide, show (5 < 0 + 1 + 1 + 1 + 1 + 1 + 1 + 1) by decide, show (6 < 0 + 1 + 1 + 1 + 1 + 1 + 1 + 1) by decide, List.length_map, lt_line (n := acc.length) (by omega)]
        exact ⟨_, rfl, _, _, rfl, acc ++ [left], _, _, _, _, by rw [List.map_append]; rfl, rfl, by rw [← hq, List.append_assoc]; rfl⟩
      | some k =>
        simp only [e_var, k_val, k_own, e_glb, k_glb, k_cb, e_int, e_str, e_bl, e_non, e_bin, k_bin, j_bin, e_neg, k_neg, e_nt, k_nt, e_and, e_or, and1, and2, and_t, and_f, or1, or2, or_f, or_t, e_cmp, k_cmp, j_cmp, e_chn, k_chn, j_chn, l_chn, l_chf, e_ite, ite_t, ite_f, e_tup, k_tup, j_tup, e_lst, k_lst, j_lst, e_idx, k_idx, j_idx, e_slc, k_slc, j_slc, l_slc, o_nil, o_one, k_o, e_call, k_call, e_bif, k_bif, e_mth, k_mth, j_mth, e_isi, k_isi, e_lc, k_lc, j_lc, k_lce, k_lca_t, k_lca_f, k_lcb, ts_nil, ts_one, k_tb, e_dg, k_dg, e_dn, el_nil, el_cons, k_el, j_el, er_nil, er_cons, k_er, j_er, i_r1, k_r1, i_r2, k_r2, j_r2, i_en, k_enl, k_ent, i_zp, k_zp, j_zp, l_zp_ll, l_zp_tt, l_zp_tl, l_zp_lt, i_it, k_it, j_it, s_nil, s_seq, k_sqn, k_sqr, k_sqb, k_nx, s_asn, s_aso, ea, k_ea_f, k_ea_t, k_as, s_ast, k_ag, s_par, k_pa, j_pa, l_pa, s_aug, k_au, j_aua, j_aus, s_app, k_ap, j_ap, s_sit, k_si, j_si, l_si, s_a2, k_a2, j_a2, l_a2, s_dp, k_dp, j_dp, s_exp, k_ex, s_iff, k_ift, k_iff, s_for, k_fo, k_foe, s_whl, s_ret, k_re, s_retN, s_brk, s_pass, getS_zero, getS_succ, isOwn, putS, dats, c_lt, c_le, c_gt, c_ge, c_is_none, c_is_int, c_is_str, c_is_tup, c_is_lst, c_is_bool, c_isnot_none, c_isnot_int, c_isnot_str, c_isnot_tup, c_isnot_lst, c_isnot_bool, c_in_sgn, c_eq, c_ne, eqOk_str, eqOk_sh, b_add, b_sub, b_mul, b_mod, b_div, b_addl, b_addt, b_rep, l_lst, l_tup, l_str, i_int, x_lst, x_tup, x_str, m_min, it_l, it_t, it_s, t_lst, q_lst, q_tup, bif_len, bif_int, bif_min, bif_max, bif_sum, bif_sorted, bif_all, bif_any, bif_tuple, bif_list, bif_divmod, mth_count, mth_index, mth_join, List.length_cons, List.length_nil, if_true, if_false, Bool.false_eq_true, Bool.or_false, Bool.false_or, Bool.or_self, List.set_cons_zero, List.set_cons_succ, frz, List.map_cons, List.map_nil, frzS, bG_tp, bG_nm, bGs_nil, bGs_cons, ob_some, gd_t, ob_t, n2, at20, at21, eq_self, and_self, and_true, true_and, wipeE, decide_true, decide_false, Bool.not_true, Bool.not_false, isi_none_int, isi_none_bool, isi_none_str, isi_none_tuple, isi_none_list, isi_bool_int, isi_bool_bool, isi_bool_str, isi_bool_tuple, isi_bool_list, isi_int_int, isi_int_bool, isi_int_str, isi_int_tuple, isi_int_list, isi_str_int, isi_str_bool, isi_str_str, isi_str_tuple, isi_str_list, isi_tuple_int, isi_tuple_bool, isi_tuple_str, isi_tuple_tuple, isi_tuple_list, isi_list_int, isi_list_bool, isi_list_str, isi_list_tuple, isi_list_list, Option.map_some, rnD_some, show (3 < 0 + 1 + 1 + 1 + 1 + 1 + 1 + 1) by decide, show (4 < 0 + 1 + 1 + 1 + 1 + 1 + 1 + 1) by decide, show (5 < 0 + 1 + 1 + 1 + 1 + 1 + 1 + 1) by decide, show (6 < 0 + 1 + 1 + 1 + 1 + 1 + 1 + 1) by decide, List.length_map, lt_line (n := acc.length) (by omega)]
        exact ⟨_, rfl, _, _, rfl, acc ++ [part (some k) left], _, _, _, _, by rw [List.map_append]; rfl, rfl, by rw [← hq, List.append_assoc]; rfl⟩
  · obtain ⟨acc, left, a, b, p, rfl, rfl, hq⟩ := hI
    rw [List.length_map, List.drop_length] at hq
    simp only [e_var, k_val, k_own, e_glb, k_glb, k_cb, e_int, e_str, e_bl, e_non, e_bin, k_bin, j_bin, e_neg, k_neg, e_nt, k_nt, e_and, e_or, and1, and2, and_t, and_f, or1, or2, or_f, or_t, e_cmp, k_cmp, j_cmp, e_chn, k_chn, j_chn, l_chn, l_chf, e_ite, ite_t, ite_f, e_tup, k_tup, j_tup, e_lst, k_lst, j_lst, e_idx, k_idx, j_idx, e_slc, k_slc, j_slc, l_slc, o_nil, o_one, k_o, e_call, k_call, e_bif, k_bif, e_mth, k_mth, j_mth, e_isi, k_isi, e_lc, k_lc, j_lc, k_lce, k_lca_t, k_lca_f, k_lcb, ts_nil, ts_one, k_tb, e_dg, k_dg, e_dn, el_nil, el_cons, k_el, j_el, er_nil, er_cons, k_er, j_er, i_r1, k_r1, i_r2, k_r2, j_r2, i_en, k_enl, k_ent, i_zp, k_zp, j_zp, l_zp_ll, l_zp_tt, l_zp_tl, l_zp_lt, i_it, k_it, j_it, s_nil, s_seq, k_sqn, k_sqr, k_sqb, k_nx, s_asn, s_aso, ea, k_ea_f, k_ea_t, k_as, s_ast, k_ag, s_par, k_pa, j_pa, l_pa, s_aug, k_au, j_aua, j_aus, s_app, k_ap, j_ap, s_sit, k_si, j_si, l_si, s_a2, k_a2, j_a2, l_a2, s_dp, k_dp, j_dp, s_exp, k_ex, s_iff, k_ift, k_iff, s_for, k_fo, k_foe, s_whl, s_ret, k_re, s_retN, s_brk, s_pass, getS_zero, getS_succ, isOwn, putS, dats, c_lt, c_le, c_gt, c_ge, c_is_none, c_is_int, c_is_str, c_is_tup, c_is_lst, c_is_bool, c_isnot_none, c_isnot_int, c_isnot_str, c_isnot_tup, c_isnot_lst, c_isnot_bool, c_in_sgn, c_eq, c_ne, eqOk_str, eqOk_sh, b_add, b_sub, b_mul, b_mod, b_div, b_addl, b_addt, b_rep, l_lst, l_tup, l_str, i_int, x_lst, x_tup, x_str, m_min, it_l, it_t, it_s, t_lst, q_lst, q_tup, bif_len, bif_int, bif_min, bif_max, bif_sum, bif_sorted, bif_all, bif_any, bif_tuple, bif_list, bif_divmod, mth_count, mth_index, mth_join, List.length_cons, List.length_nil, if_true, if_false, Bool.false_eq_true, Bool.or_false, Bool.false_or, Bool.or_self, List.set_cons_zero, List.set_cons_succ, frz, List.map_cons, List.map_nil, frzS, bG_tp, bG_nm, bGs_nil, bGs_cons, ob_some, gd_t, ob_t, n2, at20, at21, eq_self, and_self, and_true, true_and, wipeE, decide_true, decide_false, Bool.not_true, Bool.not_false, isi_none_int, isi_none_bool, isi_none_str, isi_none_tuple, isi_none_list, isi_bool_int, isi_bool_bool, isi_bool_str, isi_bool_tuple, isi_bool_list, isi_int_int, isi_int_bool, isi_int_str, isi_int_tuple, isi_int_list, isi_str_int, isi_str_bool, isi_str_str, isi_str_tuple, isi_str_list, isi_tuple_int, isi_tuple_bool, isi_tuple_str, isi_tuple_tuple, isi_tuple_list, isi_list_int, isi_list_bool, isi_list_str, isi_list_tuple, isi_list_list, Option.map_some]
    refine ⟨_, rfl, ?_⟩
    rw [← hq, parts, List.append_nil]
theorem zipD_map {α β : Type} (f : α → PyData) (g : β → PyData) : ∀ (l : List α) (m : List β), zipD (l.map f) (m.map g) = (l.zip m).map fun p => .tuple [f p.1, g p.2]
  | [], _ => by simp [zipD]
  | _ :: _, [] => by simp [zipD]
  | x :: l, y :: m => by simp [zipD, zipD_map f g l m]
theorem cby_zip (R : List Rn) (d : Nat) (c : Int) : ((R.zip (parts R c)).map fun p => cnt p.1.2 d p.2).sum = cby R d c := by
  induction R generalizing c with
  | nil => rfl
  | cons r R ih => simp [parts, cby, ih]
def Sz (R : List Rn) : Prop := ∀ r ∈ R, r.2 ≠ [] ∧ r.2.length ≤ 400 ∧ ∀ k, r.1 = some k → 0 ≤ k
theorem part_bd {o : Option Int} {c : Int} (hc : 0 ≤ c) (hk : ∀ k, o = some k → 0 ≤ k) : 0 ≤ part o c ∧ part o c ≤ c := by
  cases o with
  | none => exact ⟨hc, Int.le_refl _⟩
  | some k =>
    have := hk k rfl
    simp only [part]
    split <;> omega
theorem parts_bd {R : List Rn} {c : Int} (h : Sz R) (hc : 0 ≤ c) : ∀ p ∈ parts R c, 0 ≤ p ∧ p ≤ c := by
  induction R generalizing c with
  | nil => intro p hp; cases hp
  | cons r R ih =>
    intro p hp
    have hb := part_bd (o := r.1) hc (h r (List.mem_cons_self ..)).2.2
    rcases List.mem_cons.mp hp with rfl | hp
    · exact hb
    · have := ih (fun x hx => h x (List.mem_cons_of_mem _ hx)) (by omega : 0 ≤ c - part r.1 c) p hp
      omega
theorem sum_ints (l : List Int) : sumD [.list (l.map .int)] = some (.int l.sum) := by simp only [sumD, ints_map, Option.map_some]
theorem sum_tup (l : List Int) : sumD [.tuple (l.map .int)] = some (.int l.sum) := by simp only [sumD, ints_map, Option.map_some]
theorem s_count_by {R : List Rn} {d : Nat} {c : Int} (hR : R.length ≤ 1000) (h : Sz R) (hc : 0 ≤ c) (hb : c < 2 ^ 200) : runF tbl glb wf (n + 2) "count_by" [.dat (rsD R), .dat (sgn (48 + d)), .dat (.int c)] st = .ok (.dat (.int (cby R d c)), st) := by
  refine run_def (fn := fn_count_by) rfl rfl (by decide) ?_
  show evS _ _ _ ir_count_by [_, _, _, none, none, none] _ = _
  simp only [e_var, k_val, k_own, e_glb, k_glb, k_cb, e_int, e_str, e_bl, e_non, e_bin, k_bin, j_bin, e_neg, k_neg, e_nt, k_nt, e_and, e_or, and1, and2, and_t, and_f, or1, or2, or_f, or_t, e_cmp, k_cmp, j_cmp, e_chn, k_chn, j_chn, l_chn, l_chf, e_ite, ite_t, ite_f, e_tup, k_tup, j_tup, e_lst, k_lst, j_lst, e_idx, k_idx, j_idx, e_slc, k_slc, j_slc, l_slc, o_nil, o_one, k_o, e_call, k_call, e_bif, k_bif, e_mth, k_mth, j_mth, e_isi, k_isi, e_lc, k_lc, j_lc, k_lce, k_lca_t, k_lca_f, k_lcb, ts_nil, ts_one, k_tb, e_dg, k_dg, e_dn, el_nil, el_cons, k_el, j_el, er_nil, er_cons, k_er, j_er, i_r1, k_r1, i_r2, k_r2, j_r2, i_en, k_enl, k_ent, i_zp, k_zp, j_zp, l_zp_ll, l_zp_tt, l_zp_tl, l_zp_lt, i_it, k_it, j_it, s_nil, s_seq, k_sqn, k_sqr, k_sqb, k_nx, s_asn, s_aso, ea, k_ea_f, k_ea_t, k_as, s_ast, k_ag, s_par, k_pa, j_pa, l_pa, s_aug, k_au, j_aua, j_aus, s_app, k_ap, j_ap, s_sit, k_si, j_si, l_si, s_a2, k_a2, j_a2, l_a2, s_dp, k_dp, j_dp, s_exp, k_ex, s_iff, k_ift, k_iff, s_for, k_fo, k_foe, s_whl, s_ret, k_re, s_retN, s_brk, s_pass, getS_zero, getS_succ, isOwn, putS, dats, c_lt, c_le, c_gt, c_ge, c_is_none, c_is_int, c_is_str, c_is_tup, c_is_lst, c_is_bool, c_isnot_none, c_isnot_int, c_isnot_str, c_isnot_tup, c_isnot_lst, c_isnot_bool, c_in_sgn, c_eq, c_ne, eqOk_str, eqOk_sh, b_add, b_sub, b_mul, b_mod, b_div, b_addl, b_addt, b_rep, l_lst, l_tup, l_str, i_int, x_lst, x_tup, x_str, m_min, it_l, it_t, it_s, t_lst, q_lst, q_tup, bif_len, bif_int, bif_min, bif_max, bif_sum, bif_sorted, bif_all, bif_any, bif_tuple, bif_list, bif_divmod, mth_count, mth_index, mth_join, List.length_cons, List.length_nil, if_true, if_false, Bool.false_eq_true, Bool.or_false, Bool.false_or, Bool.or_self, List.set_cons_zero, List.set_cons_succ, frz, List.map_cons, List.map_nil, frzS, bG_tp, bG_nm, bGs_nil, bGs_cons, ob_some, gd_t, ob_t, n2, at20, at21, eq_self, and_self, and_true, true_and, wipeE, decide_true, decide_false, Bool.not_true, Bool.not_false, isi_none_int, isi_none_bool, isi_none_str, isi_none_tuple, isi_none_list, isi_bool_int, isi_bool_bool, isi_bool_str, isi_bool_tuple, isi_bool_list, isi_int_int, isi_int_bool, isi_int_str, isi_int_tuple, isi_int_list, isi_str_int, isi_str_bool, isi_str_str, isi_str_tuple, isi_str_list, isi_tuple_int, isi_tuple_bool, isi_tuple_str, isi_tuple_tuple, isi_tuple_list, isi_list_int, isi_list_bool, isi_list_str, isi_list_tuple, isi_list_list, Option.map_some, ir_count_by, s_parts_of (c := c) hR, show (3 < 0 + 1 + 1 + 1 + 1 + 1 + 1) by decide]
  rw [rsD]
  simp only [e_var, k_val, k_own, e_glb, k_glb, k_cb, e_int, e_str, e_bl, e_non, e_bin, k_bin, j_bin, e_neg, k_neg, e_nt, k_nt, e_and, e_or, and1, and2, and_t, and_f, or1, or2, or_f, or_t, e_cmp, k_cmp, j_cmp, e_chn, k_chn, j_chn, l_chn, l_chf, e_ite, ite_t, ite_f, e_tup, k_tup, j_tup, e_lst, k_lst, j_lst, e_idx, k_idx, j_idx, e_slc, k_slc, j_slc, l_slc, o_nil, o_one, k_o, e_call, k_call, e_bif, k_bif, e_mth, k_mth, j_mth, e_isi, k_isi, e_lc, k_lc, j_lc, k_lce, k_lca_t, k_lca_f, k_lcb, ts_nil, ts_one, k_tb, e_dg, k_dg, e_dn, el_nil, el_cons, k_el, j_el, er_nil, er_cons, k_er, j_er, i_r1, k_r1, i_r2, k_r2, j_r2, i_en, k_enl, k_ent, i_zp, k_zp, j_zp, l_zp_ll, l_zp_tt, l_zp_tl, l_zp_lt, i_it, k_it, j_it, s_nil, s_seq, k_sqn, k_sqr, k_sqb, k_nx, s_asn, s_aso, ea, k_ea_f, k_ea_t, k_as, s_ast, k_ag, s_par, k_pa, j_pa, l_pa, s_aug, k_au, j_aua, j_aus, s_app, k_ap, j_ap, s_sit, k_si, j_si, l_si, s_a2, k_a2, j_a2, l_a2, s_dp, k_dp, j_dp, s_exp, k_ex, s_iff, k_ift, k_iff, s_for, k_fo, k_foe, s_whl, s_ret, k_re, s_retN, s_brk, s_pass, getS_zero, getS_succ, isOwn, putS, dats, c_lt, c_le, c_gt, c_ge, c_is_none, c_is_int, c_is_str, c_is_tup, c_is_lst, c_is_bool, c_isnot_none, c_isnot_int, c_isnot_str, c_isnot_tup, c_isnot_lst, c_isnot_bool, c_in_sgn, c_eq, c_ne, eqOk_str, eqOk_sh, b_add, b_sub, b_mul, b_mod, b_div, b_addl, b_addt, b_rep, l_lst, l_tup, l_str, i_int, x_lst, x_tup, x_str, m_min, it_l, it_t, it_s, t_lst, q_lst, q_tup, bif_len, bif_int, bif_min, bif_max, bif_sum, bif_sorted, bif_all, bif_any, bif_tuple, bif_list, bif_divmod, mth_count, mth_index, mth_join, List.length_cons, List.length_nil, if_true, if_false, Bool.false_eq_true, Bool.or_false, Bool.false_or, Bool.or_self, List.set_cons_zero, List.set_cons_succ, frz, List.map_cons, List.map_nil, frzS, bG_tp, bG_nm, bGs_nil, bGs_cons, ob_some, gd_t, ob_t, n2, at20, at21, eq_self, and_self, and_true, true_and, wipeE, decide_true, decide_false, Bool.not_true, Bool.not_false, isi_none_int, isi_none_bool, isi_none_str, isi_none_tuple, isi_none_list, isi_bool_int, isi_bool_bool, isi_bool_str, isi_bool_tuple, isi_bool_list, isi_int_int, isi_int_bool, isi_int_str, isi_int_tuple, isi_int_list, isi_str_int, isi_str_bool, isi_str_str, isi_str_tuple, isi_str_list, isi_tuple_int, isi_tuple_bool, isi_tuple_str, isi_tuple_tuple, isi_tuple_list, isi_list_int, isi_list_bool, isi_list_str, isi_list_tuple, isi_list_list, Option.map_some]
  rw [zipD_map, lcT_map (fun p : Rn × Int => .int (cnt p.1.2 d p.2))]
  · simp only [e_var, k_val, k_own, e_glb, k_glb, k_cb, e_int, e_str, e_bl, e_non, e_bin, k_bin, j_bin, e_neg, k_neg, e_nt, k_nt, e_and, e_or, and1, and2, and_t, and_f, or1, or2, or_f, or_t, e_cmp, k_cmp, j_cmp, e_chn, k_chn, j_chn, l_chn, l_chf, e_ite, ite_t, ite_f, e_tup, k_tup, j_tup, e_lst, k_lst, j_lst, e_idx, k_idx, j_idx, e_slc, k_slc, j_slc, l_slc, o_nil, o_one, k_o, e_call, k_call, e_bif, k_bif, e_mth, k_mth, j_mth, e_isi, k_isi, e_lc, k_lc, j_lc, k_lce, k_lca_t, k_lca_f, k_lcb, ts_nil, ts_one, k_tb, e_dg, k_dg, e_dn, el_nil, el_cons, k_el, j_el, er_nil, er_cons, k_er, j_er, i_r1, k_r1, i_r2, k_r2, j_r2, i_en, k_enl, k_ent, i_zp, k_zp, j_zp, l_zp_ll, l_zp_tt, l_zp_tl, l_zp_lt, i_it, k_it, j_it, s_nil, s_seq, k_sqn, k_sqr, k_sqb, k_nx, s_asn, s_aso, ea, k_ea_f, k_ea_t, k_as, s_ast, k_ag, s_par, k_pa, j_pa, l_pa, s_aug, k_au, j_aua, j_aus, s_app, k_ap, j_ap, s_sit, k_si, j_si, l_si, s_a2, k_a2, j_a2, l_a2, s_dp, k_dp, j_dp, s_exp, k_ex, s_iff, k_ift, k_iff, s_for, k_fo, k_foe, s_whl, s_ret, k_re, s_retN, s_brk, s_pass, getS_zero, getS_succ, isOwn, putS, dats, c_lt, c_le, c_gt, c_ge, c_is_none, c_is_int, c_is_str, c_is_tup, c_is_lst, c_is_bool, c_isnot_none, c_isnot_int, c_isnot_str, c_isnot_tup, c_isnot_lst, c_isnot_bool, c_in_sgn, c_eq, c_ne, eqOk_str, eqOk_sh, b_add, b_sub, b_mul, b_mod, b_div, b_addl, b_addt, b_rep, l_lst, l_tup, l_str, i_int, x_lst, x_tup, x_str, m_min, it_l, it_t, it_s, t_lst, q_lst, q_tup, bif_len, bif_int, bif_min, bif_max, bif_sum, bif_sorted, bif_all, bif_any, bif_tuple, bif_list, bif_divmod, mth_count, mth_index, mth_join, List.length_cons, List.length_nil, if_true, if_false, Bool.false_eq_true, Bool.or_false, Bool.false_or, Bool.or_self, List.set_cons_zero, List.set_cons_succ, frz, List.map_cons, List.map_nil, frzS, bG_tp, bG_nm, bGs_nil, bGs_cons, ob_some, gd_t, ob_t, n2, at20, at21, eq_self, and_self, and_true, true_and, wipeE, decide_true, decide_false, Bool.not_true, Bool.not_false, isi_none_int, isi_none_bool, isi_none_str, isi_none_tuple, isi_none_list, isi_bool_int, isi_bool_bool, isi_bool_str, isi_bool_tuple, isi_bool_list, isi_int_int, isi_int_bool, isi_int_str, isi_int_tuple, isi_int_list, isi_str_int, isi_str_bool, isi_str_str, isi_str_tuple, isi_str_list, isi_tuple_int, isi_tuple_bool, isi_tuple_str, isi_tuple_tuple, isi_tuple_list, isi_list_int, isi_list_bool, isi_list_str, isi_list_tuple, isi_list_list, Option.map_some, List.length_map, List.length_zip, parts_len, Nat.min_self, le_line (n := R.length) (by omega)]
    rw [show (R.zip (parts R c)).map (fun p => PyData.int (cnt p.1.2 d p.2)) = ((R.zip (parts R c)).map fun p => cnt p.1.2 d p.2).map PyData.int by rw [List.map_map]; rfl, sum_ints, cby_zip]
    simp only [e_var, k_val, k_own, e_glb, k_glb, k_cb, e_int, e_str, e_bl, e_non, e_bin, k_bin, j_bin, e_neg, k_neg, e_nt, k_nt, e_and, e_or, and1, and2, and_t, and_f, or1, or2, or_f, or_t, e_cmp, k_cmp, j_cmp, e_chn, k_chn, j_chn, l_chn, l_chf, e_ite, ite_t, ite_f, e_tup, k_tup, j_tup, e_lst, k_lst, j_lst, e_idx, k_idx, j_idx, e_slc, k_slc, j_slc, l_slc, o_nil, o_one, k_o, e_call, k_call, e_bif, k_bif, e_mth, k_mth, j_mth, e_isi, k_isi, e_lc, k_lc, j_lc, k_lce, k_lca_t, k_lca_f, k_lcb, ts_nil, ts_one, k_tb, e_dg, k_dg, e_dn, el_nil, el_cons, k_el, j_el, er_nil, er_cons, k_er, j_er, i_r1, k_r1, i_r2, k_r2, j_r2, i_en, k_enl, k_ent, i_zp, k_zp, j_zp, l_zp_ll, l_zp_tt, l_zp_tl, l_zp_lt, i_it, k_it, j_it, s_nil, s_seq, k_sqn, k_sqr, k_sqb, k_nx, s_asn, s_aso, ea, k_ea_f, k_ea_t, k_as, s_ast, k_ag, s_par, k_pa, j_pa, l_pa, s_aug, k_au, j_aua, j_aus, s_app, k_ap, j_ap, s_sit, k_si, j_si, l_si, s_a2, k_a2, j_a2, l_a2, s_dp, k_dp, j_dp, s_exp, k_ex, s_iff, k_ift, k_iff, s_for, k_fo, k_foe, s_whl, s_ret, k_re, s_retN, s_brk, s_pass, getS_zero, getS_succ, isOwn, putS, dats, c_lt, c_le, c_gt, c_ge, c_is_none, c_is_int, c_is_str, c_is_tup, c_is_lst, c_is_bool, c_isnot_none, c_isnot_int, c_isnot_str, c_isnot_tup, c_isnot_lst, c_isnot_bool, c_in_sgn, c_eq, c_ne, eqOk_str, eqOk_sh, b_add, b_sub, b_mul, b_mod, b_div, b_addl, b_addt, b_rep, l_lst, l_tup, l_str, i_int, x_lst, x_tup, x_str, m_min, it_l, it_t, it_s, t_lst, q_lst, q_tup, bif_len, bif_int, bif_min, bif_max, bif_sum, bif_sorted, bif_all, bif_any, bif_tuple, bif_list, bif_divmod, mth_count, mth_index, mth_join, List.length_cons, List.length_nil, if_true, if_false, Bool.false_eq_true, Bool.or_false, Bool.false_or, Bool.or_self, List.set_cons_zero, List.set_cons_succ, frz, List.map_cons, List.map_nil, frzS, bG_tp, bG_nm, bGs_nil, bGs_cons, ob_some, gd_t, ob_t, n2, at20, at21, eq_self, and_self, and_true, true_and, wipeE, decide_true, decide_false, Bool.not_true, Bool.not_false, isi_none_int, isi_none_bool, isi_none_str, isi_none_tuple, isi_none_list, isi_bool_int, isi_bool_bool, isi_bool_str, isi_bool_tuple, isi_bool_list, isi_int_int, isi_int_bool, isi_int_str, isi_int_tuple, isi_int_list, isi_str_int, isi_str_bool, isi_str_str, isi_str_tuple, isi_str_list, isi_tuple_int, isi_tuple_bool, isi_tuple_str, isi_tuple_tuple, isi_tuple_list, isi_list_int, isi_list_bool, isi_list_str, isi_list_tuple, isi_list_list, Option.map_some]
  · intro p hp
    obtain ⟨h1, h2, h3⟩ := h p.1 (List.of_mem_zip hp).1
    have h4 := parts_bd h hc p.2 (List.of_mem_zip hp).2
    obtain ⟨⟨o, l⟩, q⟩ := p
    simp only [e_var, k_val, k_own, e_glb, k_glb, k_cb, e_int, e_str, e_bl, e_non, e_bin, k_bin, j_bin, e_neg, k_neg, e_nt, k_nt, e_and, e_or, and1, and2, and_t, and_f, or1, or2, or_f, or_t, e_cmp, k_cmp, j_cmp, e_chn, k_chn, j_chn, l_chn, l_chf, e_ite, ite_t, ite_f, e_tup, k_tup, j_tup, e_lst, k_lst, j_lst, e_idx, k_idx, j_idx, e_slc, k_slc, j_slc, l_slc, o_nil, o_one, k_o, e_call, k_call, e_bif, k_bif, e_mth, k_mth, j_mth, e_isi, k_isi, e_lc, k_lc, j_lc, k_lce, k_lca_t, k_lca_f, k_lcb, ts_nil, ts_one, k_tb, e_dg, k_dg, e_dn, el_nil, el_cons, k_el, j_el, er_nil, er_cons, k_er, j_er, i_r1, k_r1, i_r2, k_r2, j_r2, i_en, k_enl, k_ent, i_zp, k_zp, j_zp, l_zp_ll, l_zp_tt, l_zp_tl, l_zp_lt, i_it, k_it, j_it, s_nil, s_seq, k_sqn, k_sqr, k_sqb, k_nx, s_asn, s_aso, ea, k_ea_f, k_ea_t, k_as, s_ast, k_ag, s_par, k_pa, j_pa, l_pa, s_aug, k_au, j_aua, j_aus, s_app, k_ap, j_ap, s_sit, k_si, j_si, l_si, s_a2, k_a2, j_a2, l_a2, s_dp, k_dp, j_dp, s_exp, k_ex, s_iff, k_ift, k_iff, s_for, k_fo, k_foe, s_whl, s_ret, k_re, s_retN, s_brk, s_pass, getS_zero, getS_succ, isOwn, putS, dats, c_lt, c_le, c_gt, c_ge, c_is_none, c_is_int, c_is_str, c_is_tup, c_is_lst, c_is_bool, c_isnot_none, c_isnot_int, c_isnot_str, c_isnot_tup, c_isnot_lst, c_isnot_bool, c_in_sgn, c_eq, c_ne, eqOk_str, eqOk_sh, b_add, b_sub, b_mul, b_mod, b_div, b_addl, b_addt, b_rep, l_lst, l_tup, l_str, i_int, x_lst, x_tup, x_str, m_min, it_l, it_t, it_s, t_lst, q_lst, q_tup, bif_len, bif_int, bif_min, bif_max, bif_sum, bif_sorted, bif_all, bif_any, bif_tuple, bif_list, bif_divmod, mth_count, mth_index, mth_join, List.length_cons, List.length_nil, if_true, if_false, Bool.false_eq_true, Bool.or_false, Bool.false_or, Bool.or_self, List.set_cons_zero, List.set_cons_succ, frz, List.map_cons, List.map_nil, frzS, bG_tp, bG_nm, bGs_nil, bGs_cons, ob_some, gd_t, ob_t, n2, at20, at21, eq_self, and_self, and_true, true_and, wipeE, decide_true, decide_false, Bool.not_true, Bool.not_false, isi_none_int, isi_none_bool, isi_none_str, isi_none_tuple, isi_none_list, isi_bool_int, isi_bool_bool, isi_bool_str, isi_bool_tuple, isi_bool_list, isi_int_int, isi_int_bool, isi_int_str, isi_int_tuple, isi_int_list, isi_str_int, isi_str_bool, isi_str_str, isi_str_tuple, isi_str_list, isi_tuple_int, isi_tuple_bool, isi_tuple_str, isi_tuple_tuple, isi_tuple_list, isi_list_int, isi_list_bool, isi_list_str, isi_list_tuple, isi_list_list, Option.map_some, rnD, show (4 < 0 + 1 + 1 + 1 + 1 + 1 + 1) by decide, show (5 < 0 + 1 + 1 + 1 + 1 + 1 + 1) by decide, s_count_in (d := d) h1 h2 h4.1 (Int.lt_of_le_of_lt h4.2 hb)]
theorem digit_at : ∀ d : Nat, d < 10 → idxD (.str "0123456789") (.int (d : Int)) = some (sgn (48 + d)) := by
  intro m hm
  rcases m with _ | _ | _ | _ | _ | _ | _ | _ | _ | _ | m
  all_goals first | (exfalso; omega) | rfl | decide +kernel
theorem digit_ix : ∀ d : Nat, d < 10 → indexD (.str "0123456789") [sgn (48 + d)] = some (.int (d : Int)) := by
  intro m hm
  rcases m with _ | _ | _ | _ | _ | _ | _ | _ | _ | _ | m
  all_goals first | (exfalso; omega) | rfl | decide +kernel
def hasL (m : Nat) (R : List Rn) (c : Int) : List Int := (List.range m).map fun d => cby R d c
theorem fit62_nat {k : Nat} (h : k ≤ 1000000) : fit62 (k : Int) = true := decide_eq_true (by omega)
theorem s_has_in {ps : List Str} {R : List Rn} {c : Int} (hm : ps.length ≤ 10) (hR : R.length ≤ 1000) (h : Sz R) (hc : 0 ≤ c) (hb : c < 2 ^ 200) : runF tbl glb wf (n + 3) "has_in" [.dat (dealD ps R), .dat (.int c)] st = .ok (.dat (.tuple ((hasL ps.length R c).map .int)), st) := by
  refine run_def (fn := fn_has_in) rfl rfl (by decide) ?_
  show evS _ _ _ ir_has_in [_, _, none, none, none] _ = _
  simp only [e_var, k_val, k_own, e_glb, k_glb, k_cb, e_int, e_str, e_bl, e_non, e_bin, k_bin, j_bin, e_neg, k_neg, e_nt, k_nt, e_and, e_or, and1, and2, and_t, and_f, or1, or2, or_f, or_t, e_cmp, k_cmp, j_cmp, e_chn, k_chn, j_chn, l_chn, l_chf, e_ite, ite_t, ite_f, e_tup, k_tup, j_tup, e_lst, k_lst, j_lst, e_idx, k_idx, j_idx, e_slc, k_slc, j_slc, l_slc, o_nil, o_one, k_o, e_call, k_call, e_bif, k_bif, e_mth, k_mth, j_mth, e_isi, k_isi, e_lc, k_lc, j_lc, k_lce, k_lca_t, k_lca_f, k_lcb, ts_nil, ts_one, k_tb, e_dg, k_dg, e_dn, el_nil, el_cons, k_el, j_el, er_nil, er_cons, k_er, j_er, i_r1, k_r1, i_r2, k_r2, j_r2, i_en, k_enl, k_ent, i_zp, k_zp, j_zp, l_zp_ll, l_zp_tt, l_zp_tl, l_zp_lt, i_it, k_it, j_it, s_nil, s_seq, k_sqn, k_sqr, k_sqb, k_nx, s_asn, s_aso, ea, k_ea_f, k_ea_t, k_as, s_ast, k_ag, s_par, k_pa, j_pa, l_pa, s_aug, k_au, j_aua, j_aus, s_app, k_ap, j_ap, s_sit, k_si, j_si, l_si, s_a2, k_a2, j_a2, l_a2, s_dp, k_dp, j_dp, s_exp, k_ex, s_iff, k_ift, k_iff, s_for, k_fo, k_foe, s_whl, s_ret, k_re, s_retN, s_brk, s_pass, getS_zero, getS_succ, isOwn, putS, dats, c_lt, c_le, c_gt, c_ge, c_is_none, c_is_int, c_is_str, c_is_tup, c_is_lst, c_is_bool, c_isnot_none, c_isnot_int, c_isnot_str, c_isnot_tup, c_isnot_lst, c_isnot_bool, c_in_sgn, c_eq, c_ne, eqOk_str, eqOk_sh, b_add, b_sub, b_mul, b_mod, b_div, b_addl, b_addt, b_rep, l_lst, l_tup, l_str, i_int, x_lst, x_tup, x_str, m_min, it_l, it_t, it_s, t_lst, q_lst, q_tup, bif_len, bif_int, bif_min, bif_max, bif_sum, bif_sorted, bif_all, bif_any, bif_tuple, bif_list, bif_divmod, mth_count, mth_index, mth_join, List.length_cons, List.length_nil, if_true, if_false, Bool.false_eq_true, Bool.or_false, Bool.false_or, Bool.or_self, List.set_cons_zero, List.set_cons_succ, frz, List.map_cons, List.map_nil, frzS, bG_tp, bG_nm, bGs_nil, bGs_cons, ob_some, gd_t, ob_t, n2, at20, at21, eq_self, and_self, and_true, true_and, wipeE, decide_true, decide_false, Bool.not_true, Bool.not_false, isi_none_int, isi_none_bool, isi_none_str, isi_none_tuple, isi_none_list, isi_bool_int, isi_bool_bool, isi_bool_str, isi_bool_tuple, isi_bool_list, isi_int_int, isi_int_bool, isi_int_str, isi_int_tuple, isi_int_list, isi_str_int, isi_str_bool, isi_str_str, isi_str_tuple, isi_str_list, isi_tuple_int, isi_tuple_bool, isi_tuple_str, isi_tuple_tuple, isi_tuple_list, isi_list_int, isi_list_bool, isi_list_str, isi_list_tuple, isi_list_list, Option.map_some, ir_has_in, dealD, psD, show (2 < 0 + 1 + 1 + 1 + 1 + 1) by decide, show (3 < 0 + 1 + 1 + 1 + 1 + 1) by decide, List.length_map, fit62_nat (k := ps.length) (by omega), Int.toNat_natCast, upto_map]
  rw [lcT_map (fun d : Nat => .int (cby R d c))]
  · simp only [e_var, k_val, k_own, e_glb, k_glb, k_cb, e_int, e_str, e_bl, e_non, e_bin, k_bin, j_bin, e_neg, k_neg, e_nt, k_nt, e_and, e_or, and1, and2, and_t, and_f, or1, or2, or_f, or_t, e_cmp, k_cmp, j_cmp, e_chn, k_chn, j_chn, l_chn, l_chf, e_ite, ite_t, ite_f, e_tup, k_tup, j_tup, e_lst, k_lst, j_lst, e_idx, k_idx, j_idx, e_slc, k_slc, j_slc, l_slc, o_nil, o_one, k_o, e_call, k_call, e_bif, k_bif, e_mth, k_mth, j_mth, e_isi, k_isi, e_lc, k_lc, j_lc, k_lce, k_lca_t, k_lca_f, k_lcb, ts_nil, ts_one, k_tb, e_dg, k_dg, e_dn, el_nil, el_cons, k_el, j_el, er_nil, er_cons, k_er, j_er, i_r1, k_r1, i_r2, k_r2, j_r2, i_en, k_enl, k_ent, i_zp, k_zp, j_zp, l_zp_ll, l_zp_tt, l_zp_tl, l_zp_lt, i_it, k_it, j_it, s_nil, s_seq, k_sqn, k_sqr, k_sqb, k_nx, s_asn, s_aso, ea, k_ea_f, k_ea_t, k_as, s_ast, k_ag, s_par, k_pa, j_pa, l_pa, s_aug, k_au, j_aua, j_aus, s_app, k_ap, j_ap, s_sit, k_si, j_si, l_si, s_a2, k_a2, j_a2, l_a2, s_dp, k_dp, j_dp, s_exp, k_ex, s_iff, k_ift, k_iff, s_for, k_fo, k_foe, s_whl, s_ret, k_re, s_retN, s_brk, s_pass, getS_zero, getS_succ, isOwn, putS, dats, c_lt, c_le, c_gt, c_ge, c_is_none, c_is_int, c_is_str, c_is_tup, c_is_lst, c_is_bool, c_isnot_none, c_isnot_int, c_isnot_str, c_isnot_tup, c_isnot_lst, c_isnot_bool, c_in_sgn, c_eq, c_ne, eqOk_str, eqOk_sh, b_add, b_sub, b_mul, b_mod, b_div, b_addl, b_addt, b_rep, l_lst, l_tup, l_str, i_int, x_lst, x_tup, x_str, m_min, it_l, it_t, it_s, t_lst, q_lst, q_tup, bif_len, bif_int, bif_min, bif_max, bif_sum, bif_sorted, bif_all, bif_any, bif_tuple, bif_list, bif_divmod, mth_count, mth_index, mth_join, List.length_cons, List.length_nil, if_true, if_false, Bool.false_eq_true, Bool.or_false, Bool.false_or, Bool.or_self, List.set_cons_zero, List.set_cons_succ, frz, List.map_cons, List.map_nil, frzS, bG_tp, bG_nm, bGs_nil, bGs_cons, ob_some, gd_t, ob_t, n2, at20, at21, eq_self, and_self, and_true, true_and, wipeE, decide_true, decide_false, Bool.not_true, Bool.not_false, isi_none_int, isi_none_bool, isi_none_str, isi_none_tuple, isi_none_list, isi_bool_int, isi_bool_bool, isi_bool_str, isi_bool_tuple, isi_bool_list, isi_int_int, isi_int_bool, isi_int_str, isi_int_tuple, isi_int_list, isi_str_int, isi_str_bool, isi_str_str, isi_str_tuple, isi_str_list, isi_tuple_int, isi_tuple_bool, isi_tuple_str, isi_tuple_tuple, isi_tuple_list, isi_list_int, isi_list_bool, isi_list_str, isi_list_tuple, isi_list_list, Option.map_some, List.length_map, List.length_range, le_line (n := ps.length) (by omega), hasL, List.map_map, Function.comp_def]
  · intro d hd
    have hd := List.mem_range.mp hd
    simp only [e_var, k_val, k_own, e_glb, k_glb, k_cb, e_int, e_str, e_bl, e_non, e_bin, k_bin, j_bin, e_neg, k_neg, e_nt, k_nt, e_and, e_or, and1, and2, and_t, and_f, or1, or2, or_f, or_t, e_cmp, k_cmp, j_cmp, e_chn, k_chn, j_chn, l_chn, l_chf, e_ite, ite_t, ite_f, e_tup, k_tup, j_tup, e_lst, k_lst, j_lst, e_idx, k_idx, j_idx, e_slc, k_slc, j_slc, l_slc, o_nil, o_one, k_o, e_call, k_call, e_bif, k_bif, e_mth, k_mth, j_mth, e_isi, k_isi, e_lc, k_lc, j_lc, k_lce, k_lca_t, k_lca_f, k_lcb, ts_nil, ts_one, k_tb, e_dg, k_dg, e_dn, el_nil, el_cons, k_el, j_el, er_nil, er_cons, k_er, j_er, i_r1, k_r1, i_r2, k_r2, j_r2, i_en, k_enl, k_ent, i_zp, k_zp, j_zp, l_zp_ll, l_zp_tt, l_zp_tl, l_zp_lt, i_it, k_it, j_it, s_nil, s_seq, k_sqn, k_sqr, k_sqb, k_nx, s_asn, s_aso, ea, k_ea_f, k_ea_t, k_as, s_ast, k_ag, s_par, k_pa, j_pa, l_pa, s_aug, k_au, j_aua, j_aus, s_app, k_ap, j_ap, s_sit, k_si, j_si, l_si, s_a2, k_a2, j_a2, l_a2, s_dp, k_dp, j_dp, s_exp, k_ex, s_iff, k_ift, k_iff, s_for, k_fo, k_foe, s_whl, s_ret, k_re, s_retN, s_brk, s_pass, getS_zero, getS_succ, isOwn, putS, dats, c_lt, c_le, c_gt, c_ge, c_is_none, c_is_int, c_is_str, c_is_tup, c_is_lst, c_is_bool, c_isnot_none, c_isnot_int, c_isnot_str, c_isnot_tup, c_isnot_lst, c_isnot_bool, c_in_sgn, c_eq, c_ne, eqOk_str, eqOk_sh, b_add, b_sub, b_mul, b_mod, b_div, b_addl, b_addt, b_rep, l_lst, l_tup, l_str, i_int, x_lst, x_tup, x_str, m_min, it_l, it_t, it_s, t_lst, q_lst, q_tup, bif_len, bif_int, bif_min, bif_max, bif_sum, bif_sorted, bif_all, bif_any, bif_tuple, bif_list, bif_divmod, mth_count, mth_index, mth_join, List.length_cons, List.length_nil, if_true, if_false, Bool.false_eq_true, Bool.or_false, Bool.false_or, Bool.or_self, List.set_cons_zero, List.set_cons_succ, frz, List.map_cons, List.map_nil, frzS, bG_tp, bG_nm, bGs_nil, bGs_cons, ob_some, gd_t, ob_t, n2, at20, at21, eq_self, and_self, and_true, true_and, wipeE, decide_true, decide_false, Bool.not_true, Bool.not_false, isi_none_int, isi_none_bool, isi_none_str, isi_none_tuple, isi_none_list, isi_bool_int, isi_bool_bool, isi_bool_str, isi_bool_tuple, isi_bool_list, isi_int_int, isi_int_bool, isi_int_str, isi_int_tuple, isi_int_list, isi_str_int, isi_str_bool, isi_str_str, isi_str_tuple, isi_str_list, isi_tuple_int, isi_tuple_bool, isi_tuple_str, isi_tuple_tuple, isi_tuple_list, isi_list_int, isi_list_bool, isi_list_str, isi_list_tuple, isi_list_list, Option.map_some, show (4 < 0 + 1 + 1 + 1 + 1 + 1) by decide, gDG, digit_at d (by omega), s_count_by (d := d) hR h hc hb]
/-! ### the place of a coin -/
def place : List Rn → Int → Nat → Option (Nat × Int)
  | [], _, _ => none
  | r :: R, c, i => match r.1 with
    | none => some (i, c)
    | some k => if c < k then some (i, c) else place R (c - k) (i + 1)
def plD : Option (Nat × Int) → PyData
  | none => .none
  | some (i, c) => .tuple [.int (i : Int), .int c]
theorem s_place_in {R : List Rn} {c : Int} : runF tbl glb wf (n + 1) "place_in" [.dat (rsD R), .dat (.int c)] st = .ok (.dat (plD (place R c 0)), st) := by
  refine run_eq (fn := fn_place_in) rfl rfl (by decide) ?_
  show Ok (evS _ _ _ ir_place_in [_, _, none, none, none, none] _) _
  simp only [e_var, k_val, k_own, e_glb, k_glb, k_cb, e_int, e_str, e_bl, e_non, e_bin, k_bin, j_bin, e_neg, k_neg, e_nt, k_nt, e_and, e_or, and1, and2, and_t, and_f, or1, or2, or_f, or_t, e_cmp, k_cmp, j_cmp, e_chn, k_chn, j_chn, l_chn, l_chf, e_ite, ite_t, ite_f, e_tup, k_tup, j_tup, e_lst, k_lst, j_lst, e_idx, k_idx, j_idx, e_slc, k_slc, j_slc, l_slc, o_nil, o_one, k_o, e_call, k_call, e_bif, k_bif, e_mth, k_mth, j_mth, e_isi, k_isi, e_lc, k_lc, j_lc, k_lce, k_lca_t, k_lca_f, k_lcb, ts_nil, ts_one, k_tb, e_dg, k_dg, e_dn, el_nil, el_cons, k_el, j_el, er_nil, er_cons, k_er, j_er, i_r1, k_r1, i_r2, k_r2, j_r2, i_en, k_enl, k_ent, i_zp, k_zp, j_zp, l_zp_ll, l_zp_tt, l_zp_tl, l_zp_lt, i_it, k_it, j_it, s_nil, s_seq, k_sqn, k_sqr, k_sqb, k_nx, s_asn, s_aso, ea, k_ea_f, k_ea_t, k_as, s_ast, k_ag, s_par, k_pa, j_pa, l_pa, s_aug, k_au, j_aua, j_aus, s_app, k_ap, j_ap, s_sit, k_si, j_si, l_si, s_a2, k_a2, j_a2, l_a2, s_dp, k_dp, j_dp, s_exp, k_ex, s_iff, k_ift, k_iff, s_for, k_fo, k_foe, s_whl, s_ret, k_re, s_retN, s_brk, s_pass, getS_zero, getS_succ, isOwn, putS, dats, c_lt, c_le, c_gt, c_ge, c_is_none, c_is_int, c_is_str, c_is_tup, c_is_lst, c_is_bool, c_isnot_none, c_isnot_int, c_isnot_str, c_isnot_tup, c_isnot_lst, c_isnot_bool, c_in_sgn, c_eq, c_ne, eqOk_str, eqOk_sh, b_add, b_sub, b_mul, b_mod, b_div, b_addl, b_addt, b_rep, l_lst, l_tup, l_str, i_int, x_lst, x_tup, x_str, m_min, it_l, it_t, it_s, t_lst, q_lst, q_tup, bif_len, bif_int, bif_min, bif_max, bif_sum, bif_sorted, bif_all, bif_any, bif_tuple, bif_list, bif_divmod, mth_count, mth_index, mth_join, List.length_cons, List.length_nil, if_true, if_false, Bool.false_eq_true, Bool.or_false, Bool.false_or, Bool.or_self, List.set_cons_zero, List.set_cons_succ, frz, List.map_cons, List.map_nil, frzS, bG_tp, bG_nm, bGs_nil, bGs_cons, ob_some, gd_t, ob_t, n2, at20, at21, eq_self, and_self, and_true, true_and, wipeE, decide_true, decide_false, Bool.not_true, Bool.not_false, isi_none_int, isi_none_bool, isi_none_str, isi_none_tuple, isi_none_list, isi_bool_int, isi_bool_bool, isi_bool_str, isi_bool_tuple, isi_bool_list, isi_int_int, isi_int_bool, isi_int_str, isi_int_tuple, isi_int_list, isi_str_int, isi_str_bool, isi_str_str, isi_str_tuple, isi_str_list, isi_tuple_int, isi_tuple_bool, isi_tuple_str, isi_tuple_tuple, isi_tuple_list, isi_list_int, isi_list_bool, isi_list_str, isi_list_tuple, isi_list_list, Option.map_some, ir_place_in, rsD, show (2 < 0 + 1 + 1 + 1 + 1 + 1 + 1) by decide]
  refine foT_may (fun i en' st' => ∃ left a b p, en' = [some (.val (.dat (.tuple (R.map rnD)))), some (.val (.dat (.int c))), some (.val (.dat (.int left))), a, b, p] ∧ st' = st ∧ place (R.drop i) left i = place R c 0) ⟨c, none, none, none, rfl, rfl, rfl⟩ (fun i x en' st' hx hI => ?_) (fun en' st' hI => ?_)
  · obtain ⟨left, a, b, p, rfl, rfl, hq⟩ := hI
    have hi : i < (R.map rnD).length := by
      have := (List.getElem?_eq_some_iff.mp hx).1
      rwa [enumD_len] at this
    have hx2 := enumD_at 0 _ i _ (List.getElem?_eq_getElem hi)
    rw [hx2] at hx
    cases hx
    rw [List.length_map] at hi
    rw [List.getElem_map]
    rw [List.drop_eq_getElem_cons hi] at hq
    generalize R[i] = r at hq ⊢
    obtain ⟨o, l⟩ := r
    cases o with
    | none =>
      simp only [e_var, k_val, k_own, e_glb, k_glb, k_cb, e_int, e_str, e_bl, e_non, e_bin, k_bin, j_bin, e_neg, k_neg, e_nt, k_nt, e_and, e_or, and1, and2, and_t, and_f, or1, or2, or_f, or_t, e_cmp, k_cmp, j_cmp, e_chn, k_chn, j_chn, l_chn, l_chf, e_ite, ite_t, ite_f, e_tup, k_tup, j_tup, e_lst, k_lst, j_lst, e_idx, k_idx, j_idx, e_slc, k_slc, j_slc, l_slc, o_nil, o_one, k_o, e_call, k_call, e_bif, k_bif, e_mth, k_mth, j_mth, e_isi, k_isi, e_lc, k_lc, j_lc, k_lce, k_lca_t, k_lca_f, k_lcb, ts_nil, ts_one, k_tb, e_dg, k_dg, e_dn, el_nil, el_cons, k_el, j_el, er_nil, er_cons, k_er, j_er, i_r1, k_r1, i_r2, k_r2, j_r2, i_en, k_enl, k_ent, i_zp, k_zp, j_zp, l_zp_ll, l_zp_tt, l_zp_tl, l_zp_lt, i_it, k_it, j_it, s_nil, s_seq, k_sqn, k_sqr, k_sqb, k_nx, s_asn, s_aso, ea, k_ea_f, k_ea_t, k_as, s_ast, k_ag, s_par, k_pa, j_pa, l_pa, s_aug, k_au, j_aua, j_aus, s_app, k_ap, j_ap, s_sit, k_si, j_si, l_si, s_a2, k_a2, j_a2, l_a2, s_dp, k_dp, j_dp, s_exp, k_ex, s_iff, k_ift, k_iff, s_for, k_fo, k_foe, s_whl, s_ret, k_re, s_retN, s_brk, s_pass, getS_zero, getS_succ, isOwn, putS, dats, c_lt, c_le, c_gt, c_ge, c_is_none, c_is_int, c_is_str, c_is_tup, c_is_lst, c_is_bool, c_isnot_none, c_isnot_int, c_isnot_str, c_isnot_tup, c_isnot_lst, c_isnot_bool, c_in_sgn, c_eq, c_ne, eqOk_str, eqOk_sh, b_add, b_sub, b_mul, b_mod, b_div, b_addl, b_addt, b_rep, l_lst, l_tup, l_str, i_int, x_lst, x_tup, x_str, m_min, it_l, it_t, it_s, t_lst, q_lst, q_tup, bif_len, bif_int, bif_min, bif_max, bif_sum, bif_sorted, bif_all, bif_any, bif_tuple, bif_list, bif_divmod, mth_count, mth_index, mth_join, List.length_cons, List.length_nil, if_true, if_false, Bool.false_eq_true, Bool.or_false, Bool.false_or, Bool.or_self, List.set_cons_zero, List.set_cons_succ, frz, List.map_cons, List.map_nil, frzS, bG_tp, bG_nm, bGs_nil, bGs_cons, ob_some, gd_t, ob_t, n2, at20, at21, eq_self, and_self, and_true, true_and, wipeE, decide_true, decide_false, Bool.not_true, Bool.not_false, isi_none_int, isi_none_bool, isi_none_str, isi_none_tuple, isi_none_list, isi_bool_int, isi_bool_bool, isi_bool_str, isi_bool_tuple, isi_bool_list, isi_int_int, isi_int_bool, isi_int_str, isi_int_tuple, isi_int_list, isi_str_int, isi_str_bool, isi_str_str, isi_str_tuple, isi_str_list, isi_tuple_int, isi_tuple_bool, isi_tuple_str, isi_tuple_tuple, isi_tuple_list, isi_list_int, isi_list_bool, isi_list_str, isi_list_tuple, isi_list_list, Option.map_some, rnD_none, show (3 < 0 + 1 + 1 + 1 + 1 + 1 + 1) by decide, show (4 < 0 + 1 + 1 + 1 + 1 + 1 + 1) by decide, show (5 < 0 + 1 + 1 + 1 + 1 + 1 + 1) by decide, show 0 + 1 + 1 ≤ line by decide]
      refine ⟨_, rfl, .inr ⟨_, _, rfl, ?_⟩⟩
      rw [← hq, Nat.zero_add]
      rfl
    | some k =>
      by_cases hk : left < k
      · simp only [e_var, k_val, k_own, e_glb, k_glb, k_cb, e_int, e_str, e_bl, e_non, e_bin, k_bin, j_bin, e_neg, k_neg, e_nt, k_nt, e_and, e_or, and1, and2, and_t, and_f, or1, or2, or_f, or_t, e_cmp, k_cmp, j_cmp, e_chn, k_chn, j_chn, l_chn, l_chf, e_ite, ite_t, ite_f, e_tup, k_tup, j_tup, e_lst, k_lst, j_lst, e_idx, k_idx, j_idx, e_slc, k_slc, j_slc, l_slc, o_nil, o_one, k_o, e_call, k_call, e_bif, k_bif, e_mth, k_mth, j_mth, e_isi, k_isi, e_lc, k_lc, j_lc, k_lce, k_lca_t, k_lca_f, k_lcb, ts_nil, ts_one, k_tb, e_dg, k_dg, e_dn, el_nil, el_cons, k_el, j_el, er_nil, er_cons, k_er, j_er, i_r1, k_r1, i_r2, k_r2, j_r2, i_en, k_enl, k_ent, i_zp, k_zp, j_zp, l_zp_ll, l_zp_tt, l_zp_tl, l_zp_lt, i_it, k_it, j_it, s_nil, s_seq, k_sqn, k_sqr, k_sqb, k_nx, s_asn, s_aso, ea, k_ea_f, k_ea_t, k_as, s_ast, k_ag, s_par, k_pa, j_pa, l_pa, s_aug, k_au, j_aua, j_aus, s_app, k_ap, j_ap, s_sit, k_si, j_si, l_si, s_a2, k_a2, j_a2, l_a2, s_dp, k_dp, j_dp, s_exp, k_ex, s_iff, k_ift, k_iff, s_for, k_fo, k_foe, s_whl, s_ret, k_re, s_retN, s_brk, s_pass, getS_zero, getS_succ, isOwn, putS, dats, c_lt, c_le, c_gt, c_ge, c_is_none, c_is_int, c_is_str, c_is_tup, c_is_lst, c_is_bool, c_isnot_none, c_isnot_int, c_isnot_str, c_isnot_tup, c_isnot_lst, c_isnot_bool, c_in_sgn, c_eq, c_ne, eqOk_str, eqOk_sh, b_add, b_sub, b_mul, b_mod, b_div, b_addl, b_addt, b_rep, l_lst, l_tup, l_str, i_int, x_lst, x_tup, x_str, m_min, it_l, it_t, it_s, t_lst, q_lst, q_tup, bif_len, bif_int, bif_min, bif_max, bif_sum, bif_sorted, bif_all, bif_any, bif_tuple, bif_list, bif_divmod, mth_count, mth_index, mth_join, List.length_cons, List.length_nil, if_true, if_false, Bool.false_eq_true, Bool.or_false, Bool.false_or, Bool.or_self, List.set_cons_zero, List.set_cons_succ, frz, List.map_cons, List.map_nil, frzS, bG_tp, bG_nm, bGs_nil, bGs_cons, ob_some, gd_t, ob_t, n2, at20, at21, eq_self, and_self, and_true, true_and, wipeE, decide_true, decide_false, Bool.not_true, Bool.not_false, isi_none_int, isi_none_bool, isi_none_str, isi_none_tuple, isi_none_list, isi_bool_int, isi_bool_bool, isi_bool_str, isi_bool_tuple, isi_bool_list, isi_int_int, isi_int_bool, isi_int_str, isi_int_tuple, isi_int_list, isi_str_int, isi_str_bool, isi_str_str, isi_str_tuple, isi_str_list, isi_tuple_int, isi_tuple_bool, isi_tuple_str, isi_tuple_tuple, isi_tuple_list, isi_list_int, isi_list_bool, isi_list_str, isi_list_tuple, isi_list_list, Option.map_some, rnD_some, show (3 < 0 + 1 + 1 + 1 + 1 + 1 + 1) by decide, show (4 < 0 + 1 + 1 + 1 + 1 + 1 + 1) by decide, show (5 < 0 + 1 + 1 + 1 + 1 + 1 + 1) by decide, show 0 + 1 + 1 ≤ line by decide, hk]
        refine ⟨_, rfl, .inr ⟨_, _, rfl, ?_⟩⟩
        rw [← hq, Nat.zero_add]
        simp only [place, hk, if_true, plD]
      · simp only [e_var, k_val, k_own, e_glb, k_glb, k_cb, e_int, e_str, e_bl, e_non, e_bin, k_bin, j_bin, e_neg, k_neg, e_nt, k_nt, e_and, e_or, and1, and2, and_t, and_f, or1, or2, or_f, or_t, e_cmp, k_cmp, j_cmp, e_chn, k_chn, j_chn, l_chn, l_chf, e_ite, ite_t, ite_f, e_tup, k_tup, j_tup, e_lst, k_lst, j_lst, e_idx, k_idx, j_idx, e_slc, k_slc, j_slc, l_slc, o_nil, o_one, k_o, e_call, k_call, e_bif, k_bif, e_mth, k_mth, j_mth, e_isi, k_isi, e_lc, k_lc, j_lc, k_lce, k_lca_t, k_lca_f, k_lcb, ts_nil, ts_one, k_tb, e_dg, k_dg, e_dn, el_nil, el_cons, k_el, j_el, er_nil, er_cons, k_er, j_er, i_r1, k_r1, i_r2, k_r2, j_r2, i_en, k_enl, k_ent, i_zp, k_zp, j_zp, l_zp_ll, l_zp_tt, l_zp_tl, l_zp_lt, i_it, k_it, j_it, s_nil, s_seq, k_sqn, k_sqr, k_sqb, k_nx, s_asn, s_aso, ea, k_ea_f, k_ea_t, k_as, s_ast, k_ag, s_par, k_pa, j_pa, l_pa, s_aug, k_au, j_aua, j_aus, s_app, k_ap, j_ap, s_sit, k_si, j_si, l_si, s_a2, k_a2, j_a2, l_a2, s_dp, k_dp, j_dp, s_exp, k_ex, s_iff, k_ift, k_iff, s_for, k_fo, k_foe, s_whl, s_ret, k_re, s_retN, s_brk, s_pass, getS_zero, getS_succ, isOwn, putS, dats, c_lt, c_le, c_gt, c_ge, c_is_none, c_is_int, c_is_str, c_is_tup, c_is_lst, c_is_bool, c_isnot_none, c_isnot_int, c_isnot_str, c_isnot_tup, c_isnot_lst, c_isnot_bool, c_in_sgn, c_eq, c_ne, eqOk_str, eqOk_sh, b_add, b_sub, b_mul, b_mod, b_div, b_addl, b_addt, b_rep, l_lst, l_tup, l_str, i_int, x_lst, x_tup, x_str, m_min, it_l, it_t, it_s, t_lst, q_lst, q_tup, bif_len, bif_int, bif_min, bif_max, bif_sum, bif_sorted, bif_all, bif_any, bif_tuple, bif_list, bif_divmod, mth_count, mth_index, mth_join, List.length_cons, List.length_nil, if_true, if_false, Bool.false_eq_true, Bool.or_false, Bool.false_or, Bool.or_self, List.set_cons_zero, List.set_cons_succ, frz, List.map_cons, List.map_nil, frzS, bG_tp, bG_nm, bGs_nil, bGs_cons, ob_some, gd_t, ob_t, n2, at20, at21, eq_self, and_self, and_true, true_and, wipeE, decide_true, decide_false, Bool.not_true, Bool.not_false, isi_none_int, isi_none_bool, isi_none_str, isi_none_tuple, isi_none_list, isi_bool_int, isi_bool_bool, isi_bool_str, isi_bool_tuple, isi_bool_list, isi_int_int, isi_int_bool, isi_int_str, isi_int_tuple, isi_int_list, isi_str_int, isi_str_bool, isi_str_str, isi_str_tuple, isi_str_list, isi_tuple_int, isi_tuple_bool, isi_tuple_str, isi_tuple_tuple, isi_tuple_list, isi_list_int, isi_list_bool, isi_list_str, isi_list_tuple, isi_list_list, Option.map_some, rnD_some, show (2 < 0 + 1 + 1 + 1 + 1 + 1 + 1) by decide, show (3 < 0 + 1 + 1 + 1 + 1 + 1 + 1) by decide, show (4 < 0 + 1 + 1 + 1 + 1 + 1 + 1) by decide, show (5 < 0 + 1 + 1 + 1 + 1 + 1 + 1) by decide, hk]
        refine ⟨_, rfl, .inl ⟨_, _, rfl, _, _, _, _, rfl, rfl, ?_⟩⟩
        rw [← hq]
        simp only [place, hk, if_false]
  · obtain ⟨left, a, b, p, rfl, rfl, hq⟩ := hI
    rw [enumD_len, List.length_map, List.drop_length] at hq
    simp only [e_var, k_val, k_own, e_glb, k_glb, k_cb, e_int, e_str, e_bl, e_non, e_bin, k_bin, j_bin, e_neg, k_neg, e_nt, k_nt, e_and, e_or, and1, and2, and_t, and_f, or1, or2, or_f, or_t, e_cmp, k_cmp, j_cmp, e_chn, k_chn, j_chn, l_chn, l_chf, e_ite, ite_t, ite_f, e_tup, k_tup, j_tup, e_lst, k_lst, j_lst, e_idx, k_idx, j_idx, e_slc, k_slc, j_slc, l_slc, o_nil, o_one, k_o, e_call, k_call, e_bif, k_bif, e_mth, k_mth, j_mth, e_isi, k_isi, e_lc, k_lc, j_lc, k_lce, k_lca_t, k_lca_f, k_lcb, ts_nil, ts_one, k_tb, e_dg, k_dg, e_dn, el_nil, el_cons, k_el, j_el, er_nil, er_cons, k_er, j_er, i_r1, k_r1, i_r2, k_r2, j_r2, i_en, k_enl, k_ent, i_zp, k_zp, j_zp, l_zp_ll, l_zp_tt, l_zp_tl, l_zp_lt, i_it, k_it, j_it, s_nil, s_seq, k_sqn, k_sqr, k_sqb, k_nx, s_asn, s_aso, ea, k_ea_f, k_ea_t, k_as, s_ast, k_ag, s_par, k_pa, j_pa, l_pa, s_aug, k_au, j_aua, j_aus, s_app, k_ap, j_ap, s_sit, k_si, j_si, l_si, s_a2, k_a2, j_a2, l_a2, s_dp, k_dp, j_dp, s_exp, k_ex, s_iff, k_ift, k_iff, s_for, k_fo, k_foe, s_whl, s_ret, k_re, s_retN, s_brk, s_pass, getS_zero, getS_succ, isOwn, putS, dats, c_lt, c_le, c_gt, c_ge, c_is_none, c_is_int, c_is_str, c_is_tup, c_is_lst, c_is_bool, c_isnot_none, c_isnot_int, c_isnot_str, c_isnot_tup, c_isnot_lst, c_isnot_bool, c_in_sgn, c_eq, c_ne, eqOk_str, eqOk_sh, b_add, b_sub, b_mul, b_mod, b_div, b_addl, b_addt, b_rep, l_lst, l_tup, l_str, i_int, x_lst, x_tup, x_str, m_min, it_l, it_t, it_s, t_lst, q_lst, q_tup, bif_len, bif_int, bif_min, bif_max, bif_sum, bif_sorted, bif_all, bif_any, bif_tuple, bif_list, bif_divmod, mth_count, mth_index, mth_join, List.length_cons, List.length_nil, if_true, if_false, Bool.false_eq_true, Bool.or_false, Bool.false_or, Bool.or_self, List.set_cons_zero, List.set_cons_succ, frz, List.map_cons, List.map_nil, frzS, bG_tp, bG_nm, bGs_nil, bGs_cons, ob_some, gd_t, ob_t, n2, at20, at21, eq_self, and_self, and_true, true_and, wipeE, decide_true, decide_false, Bool.not_true, Bool.not_false, isi_none_int, isi_none_bool, isi_none_str, isi_none_tuple, isi_none_list, isi_bool_int, isi_bool_bool, isi_bool_str, isi_bool_tuple, isi_bool_list, isi_int_int, isi_int_bool, isi_int_str, isi_int_tuple, isi_int_list, isi_str_int, isi_str_bool, isi_str_str, isi_str_tuple, isi_str_list, isi_tuple_int, isi_tuple_bool, isi_tuple_str, isi_tuple_tuple, isi_tuple_list, isi_list_int, isi_list_bool, isi_list_str, isi_list_tuple, isi_list_list, Option.map_some]
    refine ⟨_, rfl, ?_⟩
    rw [← hq]
    rfl
end
end Rm

set_option Elab.async false
set_option linter.all false
set_option maxRecDepth 100000
set_option maxHeartbeats 1000000
/-! Rv, mathematics: the asked defs over a deal. -/
namespace Rm
open Rv
open PySem
section
variable {wf n : Nat} {st : Sto}
theorem zipD_same {α : Type} (f g : α → PyData) : ∀ l : List α, zipD (l.map f) (l.map g) = l.map fun x => .tuple [f x, g x]
  | [] => rfl
  | x :: l => by simp [zipD, zipD_same f g l]
theorem x_rs (R : List Rn) (i : Int) : idxD (rsD R) (.int i) = L2.atI (R.map rnD) i := nr rfl
theorem x_ps (ps : List Str) (i : Int) : idxD (psD ps) (.int i) = L2.atI (ps.map .str) i := nr rfl
theorem at_map {α β : Type} {f : α → β} {l : List α} {i : Nat} {x : α} (h : l[i]? = some x) : L2.atI (l.map f) (i : Int) = some (f x) := atI_of (by rw [List.getElem?_map, h]; rfl)
theorem idx_enc {l : Fig} {r : Int} {d : Nat} (hl : l.length ≤ 1000000) (h0 : 0 ≤ r) (h : l[r.toNat]? = some d) : idxD (.str (enc l)) (.int r) = some (sgn (48 + d)) := by
  rw [x_str, enc_len, if_pos (le_line hl), txt_enc]
  have e : r = ((r.toNat : Nat) : Int) := by omega
  rw [e, at_map h]
  rfl
theorem s_name_in {ps : List Str} {R : List Rn} {c a : Int} {i d : Nat} {o : Option Int} {l : Fig} {nm : Str} (hp : place R c 0 = some (i, a)) (hr : R[i]? = some (o, l)) (h0 : l ≠ []) (hl : l.length ≤ 400) (hd : l[(a % (l.length : Int)).toNat]? = some d) (h10 : d < 10) (hn : ps[d]? = some nm) :
    runF tbl glb wf (n + 2) "name_in" [.dat (dealD ps R), .dat (.int c)] st = .ok (.dat (.str nm), st) := by
  have hpos : 0 < l.length := by cases l with | nil => exact absurd rfl h0 | cons x r => simp
  have hm : 0 ≤ a % (l.length : Int) := Int.emod_nonneg _ (by omega)
  refine run_def (fn := fn_name_in) rfl rfl (by decide) ?_
  show evS _ _ _ ir_name_in [_, _, none, none, none, none, none] _ = _
  simp only [e_var, k_val, k_own, e_glb, k_glb, k_cb, e_int, e_str, e_bl, e_non, e_bin, k_bin, j_bin, e_neg, k_neg, e_nt, k_nt, e_and, e_or, and1, and2, and_t, and_f, or1, or2, or_f, or_t, e_cmp, k_cmp, j_cmp, e_chn, k_chn, j_chn, l_chn, l_chf, e_ite, ite_t, ite_f, e_tup, k_tup, j_tup, e_lst, k_lst, j_lst, e_idx, k_idx, j_idx, e_slc, k_slc, j_slc, l_slc, o_nil, o_one, k_o, e_call, k_call, e_bif, k_bif, e_mth, k_mth, j_mth, e_isi, k_isi, e_lc, k_lc, j_lc, k_lce, k_lca_t, k_lca_f, k_lcb, ts_nil, ts_one, k_tb, e_dg, k_dg, e_dn, el_nil, el_cons, k_el, j_el, er_nil, er_cons, k_er, j_er, i_r1, k_r1, i_r2, k_r2, j_r2, i_en, k_enl, k_ent, i_zp, k_zp, j_zp, l_zp_ll, l_zp_tt, l_zp_tl, l_zp_lt, i_it, k_it, j_it, s_nil, s_seq, k_sqn, k_sqr, k_sqb, k_nx, s_asn, s_aso, ea, k_ea_f, k_ea_t, k_as, s_ast, k_ag, s_par, k_pa, j_pa, l_pa, s_aug, k_au, j_aua, j_aus, s_app, k_ap, j_ap, s_sit, k_si, j_si, l_si, s_a2, k_a2, j_a2, l_a2, s_dp, k_dp, j_dp, s_exp, k_ex, s_iff, k_ift, k_iff, s_for, k_fo, k_foe, s_whl, s_ret, k_re, s_retN, s_brk, s_pass, getS_zero, getS_succ, isOwn, putS, dats, c_lt, c_le, c_gt, c_ge, c_is_none, c_is_int, c_is_str, c_is_tup, c_is_lst, c_is_bool, c_isnot_none, c_isnot_int, c_isnot_str, c_isnot_tup, c_isnot_lst, c_isnot_bool, c_in_sgn, c_eq, c_ne, eqOk_str, eqOk_sh, b_add, b_sub, b_mul, b_mod, b_div, b_addl, b_addt, b_rep, l_lst, l_tup, l_str, i_int, x_lst, x_tup, x_str, m_min, it_l, it_t, it_s, t_lst, q_lst, q_tup, bif_len, bif_int, bif_min, bif_max, bif_sum, bif_sorted, bif_all, bif_any, bif_tuple, bif_list, bif_divmod, mth_count, mth_index, mth_join, List.length_cons, List.length_nil, if_true, if_false, Bool.false_eq_true, Bool.or_false, Bool.false_or, Bool.or_self, List.set_cons_zero, List.set_cons_succ, frz, List.map_cons, List.map_nil, frzS, bG_tp, bG_nm, bGs_nil, bGs_cons, ob_some, gd_t, ob_t, n2, at20, at21, eq_self, and_self, and_true, true_and, wipeE, decide_true, decide_false, Bool.not_true, Bool.not_false, isi_none_int, isi_none_bool, isi_none_str, isi_none_tuple, isi_none_list, isi_bool_int, isi_bool_bool, isi_bool_str, isi_bool_tuple, isi_bool_list, isi_int_int, isi_int_bool, isi_int_str, isi_int_tuple, isi_int_list, isi_str_int, isi_str_bool, isi_str_str, isi_str_tuple, isi_str_list, isi_tuple_int, isi_tuple_bool, isi_tuple_str, isi_tuple_tuple, isi_tuple_list, isi_list_int, isi_list_bool, isi_list_str, isi_list_tuple, isi_list_list, Option.map_some, ir_name_in, dealD, show (2 < 0 + 1 + 1 + 1 + 1 + 1 + 1 + 1) by decide, show (3 < 0 + 1 + 1 + 1 + 1 + 1 + 1 + 1) by decide, show (4 < 0 + 1 + 1 + 1 + 1 + 1 + 1 + 1) by decide, show (5 < 0 + 1 + 1 + 1 + 1 + 1 + 1 + 1) by decide, show (6 < 0 + 1 + 1 + 1 + 1 + 1 + 1 + 1) by decide, s_place_in (R := R) (c := c), hp, plD, x_rs, at_map (f := rnD) hr, rnD, enc_len, le_line (n := l.length) (by omega), show (0 : Int) < (l.length : Int) by omega, idx_enc (by omega) hm hd, gDG, digit_ix d h10, x_ps, at_map (f := PyData.str) hn]
theorem rs_full_len {ps : List Str} {rs : Rs} {l : Fig} (h : DealOk ps rs l) : (full rs l).length ≤ 1000 := by
  have := h.few
  rw [full_len]
  omega
theorem DealOk.sz {ps : List Str} {rs : Rs} {l : Fig} (h : DealOk ps rs l) : Sz (full rs l) := by
  intro r hr
  rcases List.mem_append.mp hr with hr | hr
  · obtain ⟨q, hq, rfl⟩ := List.mem_map.mp hr
    obtain ⟨f, h1, h2⟩ := h.each q hq
    exact ⟨f.1, f.2.1, fun k hk => by cases hk; omega⟩
  · rw [List.mem_singleton.mp hr]
    exact ⟨h.last.1, h.last.2.1, fun k hk => by cases hk⟩
theorem small30 {c : Int} (h : c ≤ 10 ^ 30) : c < 2 ^ 200 := Int.lt_of_le_of_lt h (by decide)
theorem s_has {ps : List Str} {rs : Rs} {l : Fig} {c : Int} (h : DealOk ps rs l) (h0 : 0 ≤ c) (h1 : c ≤ 10 ^ 30) : runF tbl glb wf (n + 4) "has" [.dat (dealD ps (full rs l)), .dat (.int c)] st = .ok (.dat (.tuple ((hasL ps.length (full rs l) c).map .int)), st) := by
  refine run_def (fn := fn_has) rfl rfl (by decide) ?_
  show evS _ _ _ ir_has [_, _] _ = _
  simp only [e_var, k_val, k_own, e_glb, k_glb, k_cb, e_int, e_str, e_bl, e_non, e_bin, k_bin, j_bin, e_neg, k_neg, e_nt, k_nt, e_and, e_or, and1, and2, and_t, and_f, or1, or2, or_f, or_t, e_cmp, k_cmp, j_cmp, e_chn, k_chn, j_chn, l_chn, l_chf, e_ite, ite_t, ite_f, e_tup, k_tup, j_tup, e_lst, k_lst, j_lst, e_idx, k_idx, j_idx, e_slc, k_slc, j_slc, l_slc, o_nil, o_one, k_o, e_call, k_call, e_bif, k_bif, e_mth, k_mth, j_mth, e_isi, k_isi, e_lc, k_lc, j_lc, k_lce, k_lca_t, k_lca_f, k_lcb, ts_nil, ts_one, k_tb, e_dg, k_dg, e_dn, el_nil, el_cons, k_el, j_el, er_nil, er_cons, k_er, j_er, i_r1, k_r1, i_r2, k_r2, j_r2, i_en, k_enl, k_ent, i_zp, k_zp, j_zp, l_zp_ll, l_zp_tt, l_zp_tl, l_zp_lt, i_it, k_it, j_it, s_nil, s_seq, k_sqn, k_sqr, k_sqb, k_nx, s_asn, s_aso, ea, k_ea_f, k_ea_t, k_as, s_ast, k_ag, s_par, k_pa, j_pa, l_pa, s_aug, k_au, j_aua, j_aus, s_app, k_ap, j_ap, s_sit, k_si, j_si, l_si, s_a2, k_a2, j_a2, l_a2, s_dp, k_dp, j_dp, s_exp, k_ex, s_iff, k_ift, k_iff, s_for, k_fo, k_foe, s_whl, s_ret, k_re, s_retN, s_brk, s_pass, getS_zero, getS_succ, isOwn, putS, dats, c_lt, c_le, c_gt, c_ge, c_is_none, c_is_int, c_is_str, c_is_tup, c_is_lst, c_is_bool, c_isnot_none, c_isnot_int, c_isnot_str, c_isnot_tup, c_isnot_lst, c_isnot_bool, c_in_sgn, c_eq, c_ne, eqOk_str, eqOk_sh, b_add, b_sub, b_mul, b_mod, b_div, b_addl, b_addt, b_rep, l_lst, l_tup, l_str, i_int, x_lst, x_tup, x_str, m_min, it_l, it_t, it_s, t_lst, q_lst, q_tup, bif_len, bif_int, bif_min, bif_max, bif_sum, bif_sorted, bif_all, bif_any, bif_tuple, bif_list, bif_divmod, mth_count, mth_index, mth_join, List.length_cons, List.length_nil, if_true, if_false, Bool.false_eq_true, Bool.or_false, Bool.false_or, Bool.or_self, List.set_cons_zero, List.set_cons_succ, frz, List.map_cons, List.map_nil, frzS, bG_tp, bG_nm, bGs_nil, bGs_cons, ob_some, gd_t, ob_t, n2, at20, at21, eq_self, and_self, and_true, true_and, wipeE, decide_true, decide_false, Bool.not_true, Bool.not_false, isi_none_int, isi_none_bool, isi_none_str, isi_none_tuple, isi_none_list, isi_bool_int, isi_bool_bool, isi_bool_str, isi_bool_tuple, isi_bool_list, isi_int_int, isi_int_bool, isi_int_str, isi_int_tuple, isi_int_list, isi_str_int, isi_str_bool, isi_str_str, isi_str_tuple, isi_str_list, isi_tuple_int, isi_tuple_bool, isi_tuple_str, isi_tuple_tuple, isi_tuple_list, isi_list_int, isi_list_bool, isi_list_str, isi_list_tuple, isi_list_list, Option.map_some, ir_has, s_need_deal h, s_need_number h0 h1, s_has_in h.le (rs_full_len h) h.sz h0 (small30 h1)]
theorem s_name_at {ps : List Str} {rs : Rs} {lf : Fig} {c a : Int} {i d : Nat} {o : Option Int} {l : Fig} {nm : Str} (h : DealOk ps rs lf) (g0 : 0 ≤ c) (g1 : c ≤ 10 ^ 30) (hp : place (full rs lf) c 0 = some (i, a)) (hr : (full rs lf)[i]? = some (o, l)) (hd : l[(a % (l.length : Int)).toNat]? = some d) (h10 : d < 10) (hn : ps[d]? = some nm) :
    runF tbl glb wf (n + 4) "name_at" [.dat (dealD ps (full rs lf)), .dat (.int c)] st = .ok (.dat (.str nm), st) := by
  obtain ⟨q1, q2, _⟩ := h.sz _ (List.mem_of_getElem? hr)
  refine run_def (fn := fn_name_at) rfl rfl (by decide) ?_
  show evS _ _ _ ir_name_at [_, _] _ = _
  simp only [e_var, k_val, k_own, e_glb, k_glb, k_cb, e_int, e_str, e_bl, e_non, e_bin, k_bin, j_bin, e_neg, k_neg, e_nt, k_nt, e_and, e_or, and1, and2, and_t, and_f, or1, or2, or_f, or_t, e_cmp, k_cmp, j_cmp, e_chn, k_chn, j_chn, l_chn, l_chf, e_ite, ite_t, ite_f, e_tup, k_tup, j_tup, e_lst, k_lst, j_lst, e_idx, k_idx, j_idx, e_slc, k_slc, j_slc, l_slc, o_nil, o_one, k_o, e_call, k_call, e_bif, k_bif, e_mth, k_mth, j_mth, e_isi, k_isi, e_lc, k_lc, j_lc, k_lce, k_lca_t, k_lca_f, k_lcb, ts_nil, ts_one, k_tb, e_dg, k_dg, e_dn, el_nil, el_cons, k_el, j_el, er_nil, er_cons, k_er, j_er, i_r1, k_r1, i_r2, k_r2, j_r2, i_en, k_enl, k_ent, i_zp, k_zp, j_zp, l_zp_ll, l_zp_tt, l_zp_tl, l_zp_lt, i_it, k_it, j_it, s_nil, s_seq, k_sqn, k_sqr, k_sqb, k_nx, s_asn, s_aso, ea, k_ea_f, k_ea_t, k_as, s_ast, k_ag, s_par, k_pa, j_pa, l_pa, s_aug, k_au, j_aua, j_aus, s_app, k_ap, j_ap, s_sit, k_si, j_si, l_si, s_a2, k_a2, j_a2, l_a2, s_dp, k_dp, j_dp, s_exp, k_ex, s_iff, k_ift, k_iff, s_for, k_fo, k_foe, s_whl, s_ret, k_re, s_retN, s_brk, s_pass, getS_zero, getS_succ, isOwn, putS, dats, c_lt, c_le, c_gt, c_ge, c_is_none, c_is_int, c_is_str, c_is_tup, c_is_lst, c_is_bool, c_isnot_none, c_isnot_int, c_isnot_str, c_isnot_tup, c_isnot_lst, c_isnot_bool, c_in_sgn, c_eq, c_ne, eqOk_str, eqOk_sh, b_add, b_sub, b_mul, b_mod, b_div, b_addl, b_addt, b_rep, l_lst, l_tup, l_str, i_int, x_lst, x_tup, x_str, m_min, it_l, it_t, it_s, t_lst, q_lst, q_tup, bif_len, bif_int, bif_min, bif_max, bif_sum, bif_sorted, bif_all, bif_any, bif_tuple, bif_list, bif_divmod, mth_count, mth_index, mth_join, List.length_cons, List.length_nil, if_true, if_false, Bool.false_eq_true, Bool.or_false, Bool.false_or, Bool.or_self, List.set_cons_zero, List.set_cons_succ, frz, List.map_cons, List.map_nil, frzS, bG_tp, bG_nm, bGs_nil, bGs_cons, ob_some, gd_t, ob_t, n2, at20, at21, eq_self, and_self, and_true, true_and, wipeE, decide_true, decide_false, Bool.not_true, Bool.not_false, isi_none_int, isi_none_bool, isi_none_str, isi_none_tuple, isi_none_list, isi_bool_int, isi_bool_bool, isi_bool_str, isi_bool_tuple, isi_bool_list, isi_int_int, isi_int_bool, isi_int_str, isi_int_tuple, isi_int_list, isi_str_int, isi_str_bool, isi_str_str, isi_str_tuple, isi_str_list, isi_tuple_int, isi_tuple_bool, isi_tuple_str, isi_tuple_tuple, isi_tuple_list, isi_list_int, isi_list_bool, isi_list_str, isi_list_tuple, isi_list_list, Option.map_some, ir_name_at, s_need_deal h, s_need_number g0 g1, s_name_in (ps := ps) hp hr q1 q2 hd h10 hn]
theorem s_row_one {ps : List Str} {rs : Rs} {lf : Fig} {c a : Int} {i d : Nat} {o : Option Int} {l : Fig} {nm : Str} (h : DealOk ps rs lf) (g0 : 0 ≤ c) (g1 : c ≤ 10 ^ 30) (hp : place (full rs lf) c 0 = some (i, a)) (hr : (full rs lf)[i]? = some (o, l)) (hd : l[(a % (l.length : Int)).toNat]? = some d) (h10 : d < 10) (hn : ps[d]? = some nm) :
    runF tbl glb wf (n + 4) "row_part" [.dat (dealD ps (full rs lf)), .dat (.int c), .dat (.int 1)] st = .ok (.dat (.tuple [.str nm]), st) := by
  obtain ⟨q1, q2, _⟩ := h.sz _ (List.mem_of_getElem? hr)
  refine run_def (fn := fn_row_part) rfl rfl (by decide) ?_
  show evS _ _ _ ir_row_part [_, _, _, none] _ = _
  simp only [e_var, k_val, k_own, e_glb, k_glb, k_cb, e_int, e_str, e_bl, e_non, e_bin, k_bin, j_bin, e_neg, k_neg, e_nt, k_nt, e_and, e_or, and1, and2, and_t, and_f, or1, or2, or_f, or_t, e_cmp, k_cmp, j_cmp, e_chn, k_chn, j_chn, l_chn, l_chf, e_ite, ite_t, ite_f, e_tup, k_tup, j_tup, e_lst, k_lst, j_lst, e_idx, k_idx, j_idx, e_slc, k_slc, j_slc, l_slc, o_nil, o_one, k_o, e_call, k_call, e_bif, k_bif, e_mth, k_mth, j_mth, e_isi, k_isi, e_lc, k_lc, j_lc, k_lce, k_lca_t, k_lca_f, k_lcb, ts_nil, ts_one, k_tb, e_dg, k_dg, e_dn, el_nil, el_cons, k_el, j_el, er_nil, er_cons, k_er, j_er, i_r1, k_r1, i_r2, k_r2, j_r2, i_en, k_enl, k_ent, i_zp, k_zp, j_zp, l_zp_ll, l_zp_tt, l_zp_tl, l_zp_lt, i_it, k_it, j_it, s_nil, s_seq, k_sqn, k_sqr, k_sqb, k_nx, s_asn, s_aso, ea, k_ea_f, k_ea_t, k_as, s_ast, k_ag, s_par, k_pa, j_pa, l_pa, s_aug, k_au, j_aua, j_aus, s_app, k_ap, j_ap, s_sit, k_si, j_si, l_si, s_a2, k_a2, j_a2, l_a2, s_dp, k_dp, j_dp, s_exp, k_ex, s_iff, k_ift, k_iff, s_for, k_fo, k_foe, s_whl, s_ret, k_re, s_retN, s_brk, s_pass, getS_zero, getS_succ, isOwn, putS, dats, c_lt, c_le, c_gt, c_ge, c_is_none, c_is_int, c_is_str, c_is_tup, c_is_lst, c_is_bool, c_isnot_none, c_isnot_int, c_isnot_str, c_isnot_tup, c_isnot_lst, c_isnot_bool, c_in_sgn, c_eq, c_ne, eqOk_str, eqOk_sh, b_add, b_sub, b_mul, b_mod, b_div, b_addl, b_addt, b_rep, l_lst, l_tup, l_str, i_int, x_lst, x_tup, x_str, m_min, it_l, it_t, it_s, t_lst, q_lst, q_tup, bif_len, bif_int, bif_min, bif_max, bif_sum, bif_sorted, bif_all, bif_any, bif_tuple, bif_list, bif_divmod, mth_count, mth_index, mth_join, List.length_cons, List.length_nil, if_true, if_false, Bool.false_eq_true, Bool.or_false, Bool.false_or, Bool.or_self, List.set_cons_zero, List.set_cons_succ, frz, List.map_cons, List.map_nil, frzS, bG_tp, bG_nm, bGs_nil, bGs_cons, ob_some, gd_t, ob_t, n2, at20, at21, eq_self, and_self, and_true, true_and, wipeE, decide_true, decide_false, Bool.not_true, Bool.not_false, isi_none_int, isi_none_bool, isi_none_str, isi_none_tuple, isi_none_list, isi_bool_int, isi_bool_bool, isi_bool_str, isi_bool_tuple, isi_bool_list, isi_int_int, isi_int_bool, isi_int_str, isi_int_tuple, isi_int_list, isi_str_int, isi_str_bool, isi_str_str, isi_str_tuple, isi_str_list, isi_tuple_int, isi_tuple_bool, isi_tuple_str, isi_tuple_tuple, isi_tuple_list, isi_list_int, isi_list_bool, isi_list_str, isi_list_tuple, isi_list_list, Option.map_some, ir_row_part, s_need_deal h, s_need_number g0 g1, gMW, s_is_whole (i := 1) (a := 0) (b := 1000) (by decide) (by decide), show fit62 1 = true by decide, show upto 0 (1 : Int).toNat = [(0 : Int)].map PyData.int from rfl]
  rw [show ([PyData.int 0] : List PyData) = [(0 : Int)].map PyData.int from rfl, lcT_map (fun _ => PyData.str nm)]
  · simp only [e_var, k_val, k_own, e_glb, k_glb, k_cb, e_int, e_str, e_bl, e_non, e_bin, k_bin, j_bin, e_neg, k_neg, e_nt, k_nt, e_and, e_or, and1, and2, and_t, and_f, or1, or2, or_f, or_t, e_cmp, k_cmp, j_cmp, e_chn, k_chn, j_chn, l_chn, l_chf, e_ite, ite_t, ite_f, e_tup, k_tup, j_tup, e_lst, k_lst, j_lst, e_idx, k_idx, j_idx, e_slc, k_slc, j_slc, l_slc, o_nil, o_one, k_o, e_call, k_call, e_bif, k_bif, e_mth, k_mth, j_mth, e_isi, k_isi, e_lc, k_lc, j_lc, k_lce, k_lca_t, k_lca_f, k_lcb, ts_nil, ts_one, k_tb, e_dg, k_dg, e_dn, el_nil, el_cons, k_el, j_el, er_nil, er_cons, k_er, j_er, i_r1, k_r1, i_r2, k_r2, j_r2, i_en, k_enl, k_ent, i_zp, k_zp, j_zp, l_zp_ll, l_zp_tt, l_zp_tl, l_zp_lt, i_it, k_it, j_it, s_nil, s_seq, k_sqn, k_sqr, k_sqb, k_nx, s_asn, s_aso, ea, k_ea_f, k_ea_t, k_as, s_ast, k_ag, s_par, k_pa, j_pa, l_pa, s_aug, k_au, j_aua, j_aus, s_app, k_ap, j_ap, s_sit, k_si, j_si, l_si, s_a2, k_a2, j_a2, l_a2, s_dp, k_dp, j_dp, s_exp, k_ex, s_iff, k_ift, k_iff, s_for, k_fo, k_foe, s_whl, s_ret, k_re, s_retN, s_brk, s_pass, getS_zero, getS_succ, isOwn, putS, dats, c_lt, c_le, c_gt, c_ge, c_is_none, c_is_int, c_is_str, c_is_tup, c_is_lst, c_is_bool, c_isnot_none, c_isnot_int, c_isnot_str, c_isnot_tup, c_isnot_lst, c_isnot_bool, c_in_sgn, c_eq, c_ne, eqOk_str, eqOk_sh, b_add, b_sub, b_mul, b_mod, b_div, b_addl, b_addt, b_rep, l_lst, l_tup, l_str, i_int, x_lst, x_tup, x_str, m_min, it_l, it_t, it_s, t_lst, q_lst, q_tup, bif_len, bif_int, bif_min, bif_max, bif_sum, bif_sorted, bif_all, bif_any, bif_tuple, bif_list, bif_divmod, mth_count, mth_index, mth_join, List.length_cons, List.length_nil, if_true, if_false, Bool.false_eq_true, Bool.or_false, Bool.false_or, Bool.or_self, List.set_cons_zero, List.set_cons_succ, frz, List.map_cons, List.map_nil, frzS, bG_tp, bG_nm, bGs_nil, bGs_cons, ob_some, gd_t, ob_t, n2, at20, at21, eq_self, and_self, and_true, true_and, wipeE, decide_true, decide_false, Bool.not_true, Bool.not_false, isi_none_int, isi_none_bool, isi_none_str, isi_none_tuple, isi_none_list, isi_bool_int, isi_bool_bool, isi_bool_str, isi_bool_tuple, isi_bool_list, isi_int_int, isi_int_bool, isi_int_str, isi_int_tuple, isi_int_list, isi_str_int, isi_str_bool, isi_str_str, isi_str_tuple, isi_str_list, isi_tuple_int, isi_tuple_bool, isi_tuple_str, isi_tuple_tuple, isi_tuple_list, isi_list_int, isi_list_bool, isi_list_str, isi_list_tuple, isi_list_list, Option.map_some, show 0 + 1 ≤ line by decide]
  · intro x hx
    rw [List.mem_singleton.mp hx]
    simp only [e_var, k_val, k_own, e_glb, k_glb, k_cb, e_int, e_str, e_bl, e_non, e_bin, k_bin, j_bin, e_neg, k_neg, e_nt, k_nt, e_and, e_or, and1, and2, and_t, and_f, or1, or2, or_f, or_t, e_cmp, k_cmp, j_cmp, e_chn, k_chn, j_chn, l_chn, l_chf, e_ite, ite_t, ite_f, e_tup, k_tup, j_tup, e_lst, k_lst, j_lst, e_idx, k_idx, j_idx, e_slc, k_slc, j_slc, l_slc, o_nil, o_one, k_o, e_call, k_call, e_bif, k_bif, e_mth, k_mth, j_mth, e_isi, k_isi, e_lc, k_lc, j_lc, k_lce, k_lca_t, k_lca_f, k_lcb, ts_nil, ts_one, k_tb, e_dg, k_dg, e_dn, el_nil, el_cons, k_el, j_el, er_nil, er_cons, k_er, j_er, i_r1, k_r1, i_r2, k_r2, j_r2, i_en, k_enl, k_ent, i_zp, k_zp, j_zp, l_zp_ll, l_zp_tt, l_zp_tl, l_zp_lt, i_it, k_it, j_it, s_nil, s_seq, k_sqn, k_sqr, k_sqb, k_nx, s_asn, s_aso, ea, k_ea_f, k_ea_t, k_as, s_ast, k_ag, s_par, k_pa, j_pa, l_pa, s_aug, k_au, j_aua, j_aus, s_app, k_ap, j_ap, s_sit, k_si, j_si, l_si, s_a2, k_a2, j_a2, l_a2, s_dp, k_dp, j_dp, s_exp, k_ex, s_iff, k_ift, k_iff, s_for, k_fo, k_foe, s_whl, s_ret, k_re, s_retN, s_brk, s_pass, getS_zero, getS_succ, isOwn, putS, dats, c_lt, c_le, c_gt, c_ge, c_is_none, c_is_int, c_is_str, c_is_tup, c_is_lst, c_is_bool, c_isnot_none, c_isnot_int, c_isnot_str, c_isnot_tup, c_isnot_lst, c_isnot_bool, c_in_sgn, c_eq, c_ne, eqOk_str, eqOk_sh, b_add, b_sub, b_mul, b_mod, b_div, b_addl, b_addt, b_rep, l_lst, l_tup, l_str, i_int, x_lst, x_tup, x_str, m_min, it_l, it_t, it_s, t_lst, q_lst, q_tup, bif_len, bif_int, bif_min, bif_max, bif_sum, bif_sorted, bif_all, bif_any, bif_tuple, bif_list, bif_divmod, mth_count, mth_index, mth_join, List.length_cons, List.length_nil, if_true, if_false, Bool.false_eq_true, Bool.or_false, Bool.false_or, Bool.or_self, List.set_cons_zero, List.set_cons_succ, frz, List.map_cons, List.map_nil, frzS, bG_tp, bG_nm, bGs_nil, bGs_cons, ob_some, gd_t, ob_t, n2, at20, at21, eq_self, and_self, and_true, true_and, wipeE, decide_true, decide_false, Bool.not_true, Bool.not_false, isi_none_int, isi_none_bool, isi_none_str, isi_none_tuple, isi_none_list, isi_bool_int, isi_bool_bool, isi_bool_str, isi_bool_tuple, isi_bool_list, isi_int_int, isi_int_bool, isi_int_str, isi_int_tuple, isi_int_list, isi_str_int, isi_str_bool, isi_str_str, isi_str_tuple, isi_str_list, isi_tuple_int, isi_tuple_bool, isi_tuple_str, isi_tuple_tuple, isi_tuple_list, isi_list_int, isi_list_bool, isi_list_str, isi_list_tuple, isi_list_list, Option.map_some, show (3 < 0 + 1 + 1 + 1 + 1) by decide, Int.add_zero, s_name_in (ps := ps) hp hr q1 q2 hd h10 hn]
theorem s_run_at {ps : List Str} {rs : Rs} {l : Fig} {c : Int} (h : DealOk ps rs l) (h0 : 0 ≤ c) (h1 : c ≤ 10 ^ 30) : runF tbl glb wf (n + 4) "run_at" [.dat (dealD ps (full rs l)), .dat (.int c)] st = .ok (.dat (plD (place (full rs l) c 0)), st) := by
  refine run_def (fn := fn_run_at) rfl rfl (by decide) ?_
  show evS _ _ _ ir_run_at [_, _] _ = _
  simp only [e_var, k_val, k_own, e_glb, k_glb, k_cb, e_int, e_str, e_bl, e_non, e_bin, k_bin, j_bin, e_neg, k_neg, e_nt, k_nt, e_and, e_or, and1, and2, and_t, and_f, or1, or2, or_f, or_t, e_cmp, k_cmp, j_cmp, e_chn, k_chn, j_chn, l_chn, l_chf, e_ite, ite_t, ite_f, e_tup, k_tup, j_tup, e_lst, k_lst, j_lst, e_idx, k_idx, j_idx, e_slc, k_slc, j_slc, l_slc, o_nil, o_one, k_o, e_call, k_call, e_bif, k_bif, e_mth, k_mth, j_mth, e_isi, k_isi, e_lc, k_lc, j_lc, k_lce, k_lca_t, k_lca_f, k_lcb, ts_nil, ts_one, k_tb, e_dg, k_dg, e_dn, el_nil, el_cons, k_el, j_el, er_nil, er_cons, k_er, j_er, i_r1, k_r1, i_r2, k_r2, j_r2, i_en, k_enl, k_ent, i_zp, k_zp, j_zp, l_zp_ll, l_zp_tt, l_zp_tl, l_zp_lt, i_it, k_it, j_it, s_nil, s_seq, k_sqn, k_sqr, k_sqb, k_nx, s_asn, s_aso, ea, k_ea_f, k_ea_t, k_as, s_ast, k_ag, s_par, k_pa, j_pa, l_pa, s_aug, k_au, j_aua, j_aus, s_app, k_ap, j_ap, s_sit, k_si, j_si, l_si, s_a2, k_a2, j_a2, l_a2, s_dp, k_dp, j_dp, s_exp, k_ex, s_iff, k_ift, k_iff, s_for, k_fo, k_foe, s_whl, s_ret, k_re, s_retN, s_brk, s_pass, getS_zero, getS_succ, isOwn, putS, dats, c_lt, c_le, c_gt, c_ge, c_is_none, c_is_int, c_is_str, c_is_tup, c_is_lst, c_is_bool, c_isnot_none, c_isnot_int, c_isnot_str, c_isnot_tup, c_isnot_lst, c_isnot_bool, c_in_sgn, c_eq, c_ne, eqOk_str, eqOk_sh, b_add, b_sub, b_mul, b_mod, b_div, b_addl, b_addt, b_rep, l_lst, l_tup, l_str, i_int, x_lst, x_tup, x_str, m_min, it_l, it_t, it_s, t_lst, q_lst, q_tup, bif_len, bif_int, bif_min, bif_max, bif_sum, bif_sorted, bif_all, bif_any, bif_tuple, bif_list, bif_divmod, mth_count, mth_index, mth_join, List.length_cons, List.length_nil, if_true, if_false, Bool.false_eq_true, Bool.or_false, Bool.false_or, Bool.or_self, List.set_cons_zero, List.set_cons_succ, frz, List.map_cons, List.map_nil, frzS, bG_tp, bG_nm, bGs_nil, bGs_cons, ob_some, gd_t, ob_t, n2, at20, at21, eq_self, and_self, and_true, true_and, wipeE, decide_true, decide_false, Bool.not_true, Bool.not_false, isi_none_int, isi_none_bool, isi_none_str, isi_none_tuple, isi_none_list, isi_bool_int, isi_bool_bool, isi_bool_str, isi_bool_tuple, isi_bool_list, isi_int_int, isi_int_bool, isi_int_str, isi_int_tuple, isi_int_list, isi_str_int, isi_str_bool, isi_str_str, isi_str_tuple, isi_str_list, isi_tuple_int, isi_tuple_bool, isi_tuple_str, isi_tuple_tuple, isi_tuple_list, isi_list_int, isi_list_bool, isi_list_str, isi_list_tuple, isi_list_list, Option.map_some, ir_run_at, s_need_deal h, s_need_number h0 h1, show idxD (dealD ps (full rs l)) (.int 1) = some (rsD (full rs l)) from rfl, s_place_in (R := full rs l) (c := c)]
theorem s_gets {ps : List Str} {rs : Rs} {l : Fig} {b c : Int} (h : DealOk ps rs l) (b0 : 0 ≤ b) (b1 : b ≤ 10 ^ 30) (h0 : 0 ≤ c) (h1 : c ≤ 10 ^ 30) : runF tbl glb wf (n + 4) "gets" [.dat (dealD ps (full rs l)), .dat (.int b), .dat (.int c)] st = .ok (.dat (.tuple (((List.range ps.length).map fun d => cby (full rs l) d (b + c) - cby (full rs l) d b).map .int)), st) := by
  refine run_def (fn := fn_gets) rfl rfl (by decide) ?_
  show evS _ _ _ ir_gets [_, _, _, none, none] _ = _
  have hle := h.le
  have hbc : b + c < 2 ^ 200 := Int.lt_of_le_of_lt (Int.add_le_add b1 h1) (by decide)
  simp only [e_var, k_val, k_own, e_glb, k_glb, k_cb, e_int, e_str, e_bl, e_non, e_bin, k_bin, j_bin, e_neg, k_neg, e_nt, k_nt, e_and, e_or, and1, and2, and_t, and_f, or1, or2, or_f, or_t, e_cmp, k_cmp, j_cmp, e_chn, k_chn, j_chn, l_chn, l_chf, e_ite, ite_t, ite_f, e_tup, k_tup, j_tup, e_lst, k_lst, j_lst, e_idx, k_idx, j_idx, e_slc, k_slc, j_slc, l_slc, o_nil, o_one, k_o, e_call, k_call, e_bif, k_bif, e_mth, k_mth, j_mth, e_isi, k_isi, e_lc, k_lc, j_lc, k_lce, k_lca_t, k_lca_f, k_lcb, ts_nil, ts_one, k_tb, e_dg, k_dg, e_dn, el_nil, el_cons, k_el, j_el, er_nil, er_cons, k_er, j_er, i_r1, k_r1, i_r2, k_r2, j_r2, i_en, k_enl, k_ent, i_zp, k_zp, j_zp, l_zp_ll, l_zp_tt, l_zp_tl, l_zp_lt, i_it, k_it, j_it, s_nil, s_seq, k_sqn, k_sqr, k_sqb, k_nx, s_asn, s_aso, ea, k_ea_f, k_ea_t, k_as, s_ast, k_ag, s_par, k_pa, j_pa, l_pa, s_aug, k_au, j_aua, j_aus, s_app, k_ap, j_ap, s_sit, k_si, j_si, l_si, s_a2, k_a2, j_a2, l_a2, s_dp, k_dp, j_dp, s_exp, k_ex, s_iff, k_ift, k_iff, s_for, k_fo, k_foe, s_whl, s_ret, k_re, s_retN, s_brk, s_pass, getS_zero, getS_succ, isOwn, putS, dats, c_lt, c_le, c_gt, c_ge, c_is_none, c_is_int, c_is_str, c_is_tup, c_is_lst, c_is_bool, c_isnot_none, c_isnot_int, c_isnot_str, c_isnot_tup, c_isnot_lst, c_isnot_bool, c_in_sgn, c_eq, c_ne, eqOk_str, eqOk_sh, b_add, b_sub, b_mul, b_mod, b_div, b_addl, b_addt, b_rep, l_lst, l_tup, l_str, i_int, x_lst, x_tup, x_str, m_min, it_l, it_t, it_s, t_lst, q_lst, q_tup, bif_len, bif_int, bif_min, bif_max, bif_sum, bif_sorted, bif_all, bif_any, bif_tuple, bif_list, bif_divmod, mth_count, mth_index, mth_join, List.length_cons, List.length_nil, if_true, if_false, Bool.false_eq_true, Bool.or_false, Bool.false_or, Bool.or_self, List.set_cons_zero, List.set_cons_succ, frz, List.map_cons, List.map_nil, frzS, bG_tp, bG_nm, bGs_nil, bGs_cons, ob_some, gd_t, ob_t, n2, at20, at21, eq_self, and_self, and_true, true_and, wipeE, decide_true, decide_false, Bool.not_true, Bool.not_false, isi_none_int, isi_none_bool, isi_none_str, isi_none_tuple, isi_none_list, isi_bool_int, isi_bool_bool, isi_bool_str, isi_bool_tuple, isi_bool_list, isi_int_int, isi_int_bool, isi_int_str, isi_int_tuple, isi_int_list, isi_str_int, isi_str_bool, isi_str_str, isi_str_tuple, isi_str_list, isi_tuple_int, isi_tuple_bool, isi_tuple_str, isi_tuple_tuple, isi_tuple_list, isi_list_int, isi_list_bool, isi_list_str, isi_list_tuple, isi_list_list, Option.map_some, ir_gets, s_need_deal h, s_need_number h0 h1, s_need_number b0 b1, s_has_in h.le (rs_full_len h) h.sz b0 (small30 b1), s_has_in h.le (rs_full_len h) h.sz (Int.add_nonneg b0 h0) hbc]
  rw [hasL, hasL, List.map_map, List.map_map, zipD_same, lcT_map (fun d : Nat => .int (cby (full rs l) d (b + c) - cby (full rs l) d b))]
  · simp only [e_var, k_val, k_own, e_glb, k_glb, k_cb, e_int, e_str, e_bl, e_non, e_bin, k_bin, j_bin, e_neg, k_neg, e_nt, k_nt, e_and, e_or, and1, and2, and_t, and_f, or1, or2, or_f, or_t, e_cmp, k_cmp, j_cmp, e_chn, k_chn, j_chn, l_chn, l_chf, e_ite, ite_t, ite_f, e_tup, k_tup, j_tup, e_lst, k_lst, j_lst, e_idx, k_idx, j_idx, e_slc, k_slc, j_slc, l_slc, o_nil, o_one, k_o, e_call, k_call, e_bif, k_bif, e_mth, k_mth, j_mth, e_isi, k_isi, e_lc, k_lc, j_lc, k_lce, k_lca_t, k_lca_f, k_lcb, ts_nil, ts_one, k_tb, e_dg, k_dg, e_dn, el_nil, el_cons, k_el, j_el, er_nil, er_cons, k_er, j_er, i_r1, k_r1, i_r2, k_r2, j_r2, i_en, k_enl, k_ent, i_zp, k_zp, j_zp, l_zp_ll, l_zp_tt, l_zp_tl, l_zp_lt, i_it, k_it, j_it, s_nil, s_seq, k_sqn, k_sqr, k_sqb, k_nx, s_asn, s_aso, ea, k_ea_f, k_ea_t, k_as, s_ast, k_ag, s_par, k_pa, j_pa, l_pa, s_aug, k_au, j_aua, j_aus, s_app, k_ap, j_ap, s_sit, k_si, j_si, l_si, s_a2, k_a2, j_a2, l_a2, s_dp, k_dp, j_dp, s_exp, k_ex, s_iff, k_ift, k_iff, s_for, k_fo, k_foe, s_whl, s_ret, k_re, s_retN, s_brk, s_pass, getS_zero, getS_succ, isOwn, putS, dats, c_lt, c_le, c_gt, c_ge, c_is_none, c_is_int, c_is_str, c_is_tup, c_is_lst, c_is_bool, c_isnot_none, c_isnot_int, c_isnot_str, c_isnot_tup, c_isnot_lst, c_isnot_bool, c_in_sgn, c_eq, c_ne, eqOk_str, eqOk_sh, b_add, b_sub, b_mul, b_mod, b_div, b_addl, b_addt, b_rep, l_lst, l_tup, l_str, i_int, x_lst, x_tup, x_str, m_min, it_l, it_t, it_s, t_lst, q_lst, q_tup, bif_len, bif_int, bif_min, bif_max, bif_sum, bif_sorted, bif_all, bif_any, bif_tuple, bif_list, bif_divmod, mth_count, mth_index, mth_join, List.length_cons, List.length_nil, if_true, if_false, Bool.false_eq_true, Bool.or_false, Bool.false_or, Bool.or_self, List.set_cons_zero, List.set_cons_succ, frz, List.map_cons, List.map_nil, frzS, bG_tp, bG_nm, bGs_nil, bGs_cons, ob_some, gd_t, ob_t, n2, at20, at21, eq_self, and_self, and_true, true_and, wipeE, decide_true, decide_false, Bool.not_true, Bool.not_false, isi_none_int, isi_none_bool, isi_none_str, isi_none_tuple, isi_none_list, isi_bool_int, isi_bool_bool, isi_bool_str, isi_bool_tuple, isi_bool_list, isi_int_int, isi_int_bool, isi_int_str, isi_int_tuple, isi_int_list, isi_str_int, isi_str_bool, isi_str_str, isi_str_tuple, isi_str_list, isi_tuple_int, isi_tuple_bool, isi_tuple_str, isi_tuple_tuple, isi_tuple_list, isi_list_int, isi_list_bool, isi_list_str, isi_list_tuple, isi_list_list, Option.map_some, List.length_map, List.length_range, le_line (n := ps.length) (by omega), List.map_map, Function.comp_def]
  · intro d hd
    simp only [e_var, k_val, k_own, e_glb, k_glb, k_cb, e_int, e_str, e_bl, e_non, e_bin, k_bin, j_bin, e_neg, k_neg, e_nt, k_nt, e_and, e_or, and1, and2, and_t, and_f, or1, or2, or_f, or_t, e_cmp, k_cmp, j_cmp, e_chn, k_chn, j_chn, l_chn, l_chf, e_ite, ite_t, ite_f, e_tup, k_tup, j_tup, e_lst, k_lst, j_lst, e_idx, k_idx, j_idx, e_slc, k_slc, j_slc, l_slc, o_nil, o_one, k_o, e_call, k_call, e_bif, k_bif, e_mth, k_mth, j_mth, e_isi, k_isi, e_lc, k_lc, j_lc, k_lce, k_lca_t, k_lca_f, k_lcb, ts_nil, ts_one, k_tb, e_dg, k_dg, e_dn, el_nil, el_cons, k_el, j_el, er_nil, er_cons, k_er, j_er, i_r1, k_r1, i_r2, k_r2, j_r2, i_en, k_enl, k_ent, i_zp, k_zp, j_zp, l_zp_ll, l_zp_tt, l_zp_tl, l_zp_lt, i_it, k_it, j_it, s_nil, s_seq, k_sqn, k_sqr, k_sqb, k_nx, s_asn, s_aso, ea, k_ea_f, k_ea_t, k_as, s_ast, k_ag, s_par, k_pa, j_pa, l_pa, s_aug, k_au, j_aua, j_aus, s_app, k_ap, j_ap, s_sit, k_si, j_si, l_si, s_a2, k_a2, j_a2, l_a2, s_dp, k_dp, j_dp, s_exp, k_ex, s_iff, k_ift, k_iff, s_for, k_fo, k_foe, s_whl, s_ret, k_re, s_retN, s_brk, s_pass, getS_zero, getS_succ, isOwn, putS, dats, c_lt, c_le, c_gt, c_ge, c_is_none, c_is_int, c_is_str, c_is_tup, c_is_lst, c_is_bool, c_isnot_none, c_isnot_int, c_isnot_str, c_isnot_tup, c_isnot_lst, c_isnot_bool, c_in_sgn, c_eq, c_ne, eqOk_str, eqOk_sh, b_add, b_sub, b_mul, b_mod, b_div, b_addl, b_addt, b_rep, l_lst, l_tup, l_str, i_int, x_lst, x_tup, x_str, m_min, it_l, it_t, it_s, t_lst, q_lst, q_tup, bif_len, bif_int, bif_min, bif_max, bif_sum, bif_sorted, bif_all, bif_any, bif_tuple, bif_list, bif_divmod, mth_count, mth_index, mth_join, List.length_cons, List.length_nil, if_true, if_false, Bool.false_eq_true, Bool.or_false, Bool.false_or, Bool.or_self, List.set_cons_zero, List.set_cons_succ, frz, List.map_cons, List.map_nil, frzS, bG_tp, bG_nm, bGs_nil, bGs_cons, ob_some, gd_t, ob_t, n2, at20, at21, eq_self, and_self, and_true, true_and, wipeE, decide_true, decide_false, Bool.not_true, Bool.not_false, isi_none_int, isi_none_bool, isi_none_str, isi_none_tuple, isi_none_list, isi_bool_int, isi_bool_bool, isi_bool_str, isi_bool_tuple, isi_bool_list, isi_int_int, isi_int_bool, isi_int_str, isi_int_tuple, isi_int_list, isi_str_int, isi_str_bool, isi_str_str, isi_str_tuple, isi_str_list, isi_tuple_int, isi_tuple_bool, isi_tuple_str, isi_tuple_tuple, isi_tuple_list, isi_list_int, isi_list_bool, isi_list_str, isi_list_tuple, isi_list_list, Option.map_some, show (3 < 0 + 1 + 1 + 1 + 1 + 1) by decide, show (4 < 0 + 1 + 1 + 1 + 1 + 1) by decide, Function.comp]
end
end Rm

set_option Elab.async false
set_option linter.all false
set_option maxRecDepth 100000
set_option maxHeartbeats 1000000
/-! Rv, mathematics: counts and places, no program in sight. -/
namespace Rm
open Rv
open PySem
theorem cnt_zero (l : Fig) (d : Nat) : cnt l d 0 = 0 := by simp [cnt]
theorem take_succ_count {l : Fig} {r d x : Nat} (h : l[r]? = some x) : (l.take (r + 1)).count d = (l.take r).count d + if x = d then 1 else 0 := by
  rw [List.take_add_one, h, List.count_append]
  congr 1
  simp only [Option.toList_some, List.count_cons, List.count_nil, Nat.zero_add, beq_iff_eq]
theorem cnt_succ {l : Fig} {c : Int} {x d : Nat} (h0 : l ≠ []) (hc : 0 ≤ c) (hx : l[(c % (l.length : Int)).toNat]? = some x) : cnt l d (c + 1) = cnt l d c + if x = d then 1 else 0 := by
  have hp : 0 < l.length := by cases l with | nil => exact absurd rfl h0 | cons x r => simp
  have hL : (0 : Int) < (l.length : Int) := by omega
  have hr0 := Int.emod_nonneg c (by omega : (l.length : Int) ≠ 0)
  have hr1 := Int.emod_lt_of_pos c hL
  have hdm := Int.mul_ediv_add_emod c (l.length : Int)
  generalize hq : c / (l.length : Int) = q at *
  generalize hr : c % (l.length : Int) = r at *
  have ht := take_succ_count (d := d) hx
  unfold cnt
  rw [hq, hr]
  by_cases hlt : r + 1 < (l.length : Int)
  · have e1 : (c + 1) / (l.length : Int) = q := by
      rw [← hdm, Int.add_assoc, Int.mul_add_ediv_left _ _ (by omega), Int.ediv_eq_zero_of_lt (by omega) hlt, Int.add_zero]
    have e2 : (c + 1) % (l.length : Int) = r + 1 := by
      rw [← hdm, Int.add_assoc, Int.mul_add_emod_self_left, Int.emod_eq_of_lt (by omega) hlt]
    rw [e1, e2, show (r + 1).toNat = r.toNat + 1 by omega, ht]
    split <;> simp <;> omega
  · have hrl : r + 1 = (l.length : Int) := by omega
    have e1 : (c + 1) / (l.length : Int) = q + 1 := by
      rw [← hdm, Int.add_assoc, hrl, Int.mul_add_ediv_left _ _ (by omega), Int.ediv_self (by omega)]
    have e2 : (c + 1) % (l.length : Int) = 0 := by
      rw [← hdm, Int.add_assoc, hrl, Int.mul_add_emod_self_left, Int.emod_self]
    rw [show r.toNat + 1 = l.length by omega, List.take_of_length_le (Nat.le_refl _)] at ht
    rw [e1, e2, ht]
    split <;> simp [Int.add_mul] <;> omega
theorem part_some_lt {k c : Int} (h : c < k) : part (some k) c = c := by
  simp only [part]
  split <;> omega
theorem part_some_ge {k c : Int} (h : k ≤ c) : part (some k) c = k := by
  simp only [part]
  split <;> omega
theorem cby_succ {R : List Rn} {c : Int} {i0 i : Nat} {a : Int} (hz : ∀ r ∈ R, r.2 ≠ []) (hc : 0 ≤ c) (hp : place R c i0 = some (i, a)) : ∃ (j : Nat) (o : Option Int) (l : Fig) (x : Nat), i = i0 + j ∧ R[j]? = some (o, l) ∧ 0 ≤ a ∧ (∀ k, o = some k → a < k) ∧ l[(a % (l.length : Int)).toNat]? = some x ∧ ∀ d, cby R d (c + 1) = cby R d c + if x = d then 1 else 0 := by
  induction R generalizing c i0 with
  | nil => cases hp
  | cons r R ih =>
    obtain ⟨o, l⟩ := r
    have hl : l ≠ [] := hz _ (List.mem_cons_self ..)
    have hpos : 0 < l.length := by cases l with | nil => exact absurd rfl hl | cons x r => simp
    have dig : ∀ a : Int, ∃ x, l[(a % (l.length : Int)).toNat]? = some x := fun a => by
      have h1 := Int.emod_nonneg a (by omega : (l.length : Int) ≠ 0)
      have h2 := Int.emod_lt_of_pos a (by omega : (0 : Int) < (l.length : Int))
      exact ⟨_, List.getElem?_eq_getElem (by omega)⟩
    cases o with
    | none =>
      obtain ⟨rfl, rfl⟩ : i0 = i ∧ c = a := by
        have := Option.some.inj hp
        exact ⟨congrArg Prod.fst this, congrArg Prod.snd this⟩
      obtain ⟨x, hx⟩ := dig c
      refine ⟨0, none, l, x, rfl, rfl, hc, (fun k hk => by cases hk), hx, fun d => ?_⟩
      simp only [cby, part, Int.sub_self, cnt_succ hl hc hx]
      omega
    | some k =>
      simp only [place] at hp
      by_cases hk : c < k
      · rw [if_pos hk] at hp
        obtain ⟨rfl, rfl⟩ : i0 = i ∧ c = a := by
          have := Option.some.inj hp
          exact ⟨congrArg Prod.fst this, congrArg Prod.snd this⟩
        obtain ⟨x, hx⟩ := dig c
        refine ⟨0, some k, l, x, rfl, rfl, hc, (fun k' hk' => by cases hk'; exact hk), hx, fun d => ?_⟩
        have e2 : part (some k) (c + 1) = c + 1 := by
          simp only [part]
          split <;> omega
        simp only [cby, part_some_lt hk, e2, Int.sub_self, cnt_succ hl hc hx]
        omega
      · rw [if_neg hk] at hp
        obtain ⟨j, o, l', x, h1, h2, h3, h4, h5, h6⟩ := ih (fun r hr => hz r (List.mem_cons_of_mem _ hr)) (by omega : 0 ≤ c - k) hp
        refine ⟨j + 1, o, l', x, by omega, by simpa using h2, h3, h4, h5, fun d => ?_⟩
        have e := h6 d
        simp only [cby, part_some_ge (show k ≤ c by omega), part_some_ge (show k ≤ c + 1 by omega)]
        rw [show c + 1 - k = c - k + 1 by omega, e]
        omega
/-- where a coin lies in a whole staircase -/
theorem place_full (rs : Rs) (l : Fig) (c : Int) (i0 : Nat) : ∃ i a, place (full rs l) c i0 = some (i, a) ∧ i0 ≤ i ∧ i - i0 ≤ rs.length ∧ ((rs.take (i - i0)).map (·.1)).sum + a = c := by
  induction rs generalizing c i0 with
  | nil => exact ⟨i0, c, rfl, Nat.le_refl _, by simp, by simp⟩
  | cons r rs ih =>
    by_cases hk : c < r.1
    · exact ⟨i0, c, by simp only [full, List.map_cons, List.cons_append, place, if_pos hk], Nat.le_refl _, by simp, by simp⟩
    · obtain ⟨i, a, h1, h2, h3, h4⟩ := ih (c - r.1) (i0 + 1)
      refine ⟨i, a, by simp only [full, List.map_cons, List.cons_append, place, if_neg hk]; exact h1, by omega, by simp only [List.length_cons]; omega, ?_⟩
      rw [show i - i0 = (i - (i0 + 1)) + 1 by omega, List.take_succ_cons, List.map_cons, List.sum_cons]
      omega
theorem cby_zero {R : List Rn} (h : ∀ r ∈ R, ∀ k, r.1 = some k → 0 ≤ k) (d : Nat) : cby R d 0 = 0 := by
  induction R with
  | nil => rfl
  | cons r R ih =>
    have e : part r.1 0 = 0 := by
      rcases r with ⟨_ | k, l⟩
      · rfl
      · have := h _ (List.mem_cons_self ..) k rfl
        simp only [part]
        split <;> omega
    simp only [cby, e, cnt_zero, Int.sub_zero, ih fun r hr => h r (List.mem_cons_of_mem _ hr)]
    rfl
theorem sum_delta (m x : Nat) (h : x < m) (f : Nat → Int) : ((List.range m).map fun d => f d + if x = d then 1 else 0).sum = ((List.range m).map f).sum + 1 := by
  induction m with
  | zero => omega
  | succ m ih =>
    rw [List.range_succ, List.map_append, List.map_append, List.sum_append, List.sum_append]
    simp only [List.map_cons, List.map_nil, List.sum_cons, List.sum_nil, Int.add_zero]
    by_cases hx : x < m
    · rw [ih hx, if_neg (by omega)]
      omega
    · have : x = m := by omega
      subst this
      have e : ((List.range x).map fun d => f d + if x = d then 1 else 0) = (List.range x).map f := List.map_congr_left fun d hd => by
        have := List.mem_range.mp hd
        rw [if_neg (by omega), Int.add_zero]
      rw [e, if_pos rfl]
      omega
structure Good (m : Nat) (rs : Rs) (l : Fig) : Prop where
  last : FigOk m l
  each : ∀ r ∈ rs, FigOk m r.2 ∧ 1 ≤ r.1 ∧ r.1 ≤ 10 ^ 12
theorem Good.fig {m : Nat} {rs : Rs} {l : Fig} (h : Good m rs l) : ∀ r ∈ full rs l, FigOk m r.2 ∧ ∀ k, r.1 = some k → 1 ≤ k := fun r hr => by
  rcases List.mem_append.mp hr with hr | hr
  · obtain ⟨q, hq, rfl⟩ := List.mem_map.mp hr
    obtain ⟨f, h1, h2⟩ := h.each q hq
    exact ⟨f, fun k hk => by cases hk; omega⟩
  · rw [List.mem_singleton.mp hr]
    exact ⟨h.last, fun k hk => by cases hk⟩
/-- the coin: its run, its place there, its figure -/
theorem coin {m : Nat} {rs : Rs} {l : Fig} (h : Good m rs l) {c : Int} (hc : 0 ≤ c) : ∃ (i : Nat) (a : Int) (o : Option Int) (f : Fig) (x : Nat), place (full rs l) c 0 = some (i, a) ∧ (full rs l)[i]? = some (o, f) ∧ FigOk m f ∧ 0 ≤ a ∧ (∀ k, o = some k → a < k) ∧ f[(a % (f.length : Int)).toNat]? = some x ∧ x < m ∧ i ≤ rs.length ∧ ((rs.take i).map (·.1)).sum + a = c ∧
    ∀ d, cby (full rs l) d (c + 1) = cby (full rs l) d c + if x = d then 1 else 0 := by
  obtain ⟨i, a, h1, h2, h3, h4⟩ := place_full rs l c 0
  obtain ⟨j, o, f, x, g1, g2, g3, g4, g5, g6⟩ := cby_succ (fun r hr => (h.fig r hr).1.1) hc h1
  rw [Nat.zero_add] at g1
  subst g1
  have hf := (h.fig _ (List.mem_of_getElem? g2)).1
  exact ⟨i, a, o, f, x, h1, g2, hf, g3, g4, g5, hf.2.2 x (List.mem_of_getElem? g5), by simpa using h3, by simpa using h4, g6⟩
theorem sum_has {m : Nat} {rs : Rs} {l : Fig} (h : Good m rs l) (c : Nat) : (hasL m (full rs l) (c : Int)).sum = c := by
  induction c with
  | zero =>
    have e : hasL m (full rs l) ((0 : Nat) : Int) = (List.range m).map fun _ => (0 : Int) := List.map_congr_left fun d _ => cby_zero (fun r hr k hk => by have := (h.fig r hr).2 k hk; omega) d
    rw [e]
    have : ∀ k : Nat, ((List.range k).map fun _ => (0 : Int)).sum = 0 := fun k => by
      induction k with
      | zero => rfl
      | succ k ih => rw [List.range_succ, List.map_append, List.sum_append, ih]; rfl
    exact this m
  | succ c ih =>
    obtain ⟨i, a, o, f, x, _, _, _, _, _, _, hx, _, _, e⟩ := coin h (c := (c : Int)) (by omega)
    have : hasL m (full rs l) ((c + 1 : Nat) : Int) = (List.range m).map fun d => cby (full rs l) d (c : Int) + if x = d then 1 else 0 := List.map_congr_left fun d _ => e d
    rw [this, sum_delta m x hx]
    have ih' : ((List.range m).map fun d => cby (full rs l) d (c : Int)).sum = c := ih
    rw [ih']
    omega
/-- far behind the steps -/
theorem cnt_rounds {l : Fig} (h0 : l ≠ []) (d : Nat) (c t : Int) : cnt l d (c + t * (l.length : Int)) = cnt l d c + t * ((l.count d : Nat) : Int) := by
  have hp : 0 < l.length := by cases l with | nil => exact absurd rfl h0 | cons x r => simp
  unfold cnt
  rw [Int.add_mul_ediv_right _ _ (by omega), Int.add_mul_emod_self_right, Int.add_mul]
  omega
theorem cby_far {rs : Rs} {l : Fig} {c t : Int} (h0 : l ≠ []) (hs : ∀ r ∈ rs, 1 ≤ r.1) (hc : (rs.map (·.1)).sum ≤ c) (ht : 0 ≤ t) (d : Nat) : cby (full rs l) d (c + t * (l.length : Int)) = cby (full rs l) d c + t * ((l.count d : Nat) : Int) := by
  induction rs generalizing c with
  | nil => simp only [full, List.map_nil, List.nil_append, cby, part, cnt_rounds h0, Int.add_zero]
  | cons r rs ih =>
    have hn : 0 ≤ (rs.map (·.1)).sum := by
      have : ∀ q : Rs, (∀ r ∈ q, 1 ≤ r.1) → 0 ≤ (q.map (·.1)).sum := fun q hq => by
        induction q with
        | nil => simp
        | cons y q ihq =>
          rw [List.map_cons, List.sum_cons]
          have h1 := hq y (List.mem_cons_self ..)
          have h2 := ihq fun r hr => hq r (List.mem_cons_of_mem _ hr)
          omega
      exact this rs fun r hr => hs r (List.mem_cons_of_mem _ hr)
    rw [List.map_cons, List.sum_cons] at hc
    have hl : 0 ≤ t * (l.length : Int) := Int.mul_nonneg ht (by omega)
    have e1 : part (some r.1) (c + t * (l.length : Int)) = r.1 := part_some_ge (by omega)
    have e2 : part (some r.1) c = r.1 := part_some_ge (by omega)
    simp only [full, List.map_cons, List.cons_append, cby, e1, e2]
    have := ih (c := c - r.1) (fun r hr => hs r (List.mem_cons_of_mem _ hr)) (by omega)
    unfold full at this
    rw [show c + t * (l.length : Int) - r.1 = c - r.1 + t * (l.length : Int) by omega, this]
    omega
/-- what one coin adds -/
def unit (m x : Nat) : List Int := (List.range m).map fun d => if x = d then 1 else 0
theorem unit_sorted : ∀ m x : Nat, m ≤ 10 → x < m → isort (unit m x) = List.replicate (m - 1) 0 ++ [1] := by
  have : ∀ m : Fin 11, ∀ x : Fin m.val, isort (unit m.val x.val) = List.replicate (m.val - 1) 0 ++ [1] := by decide +kernel
  exact fun m x hm hx => this ⟨m, by omega⟩ ⟨x, hx⟩
theorem unit_index : ∀ m x : Nat, m ≤ 10 → x < m → indexD (.list ((unit m x).map .int)) [.int 1] = some (.int (x : Int)) := by
  intro m x hm hx
  have key : ∀ m : Fin 11, ∀ x : Fin m.val, firstAt (fun z => PyData.eqv z (.int 1)) ((unit m.val x.val).map .int) 0 = some x.val := by decide +kernel
  have hf : ((unit m x).map PyData.int).all flat = true := by
    rw [List.all_eq_true]
    intro z hz
    obtain ⟨y, _, rfl⟩ := List.mem_map.mp hz
    rfl
  simp only [indexD, flat, hf, Bool.and_self, if_true, key ⟨m, by omega⟩ ⟨x, hx⟩, Option.map_some]
end Rm

set_option Elab.async false
set_option linter.all false
set_option maxRecDepth 100000
set_option maxHeartbeats 1000000
/-! Rv, mathematics: the law's draws. -/
namespace Rm
open Rv
open PySem
def kv (cs : List Int) (l s : Int) : List (Str × PyData) := [("cells", .list (cs.map .int)), ("left", .int l), ("spot", .int s)]
def mS (cs : List Int) (l s : Int) : Sto := [kv cs l s]
theorem dg_cells (cs : List Int) (l s : Int) : dGet (mS cs l s) 0 "cells" = some (.list (cs.map .int)) := nr rfl
theorem dg_left (cs : List Int) (l s : Int) : dGet (mS cs l s) 0 "left" = some (.int l) := nr rfl
theorem dg_spot (cs : List Int) (l s : Int) : dGet (mS cs l s) 0 "spot" = some (.int s) := nr rfl
theorem dp_left (cs : List Int) (l s y : Int) (en : En) : dpL (mS cs l s)[0]? 0 "left" (.int y) en (mS cs l s) = .ok (.next en (mS cs y s)) := nr rfl
theorem dp_spot (cs : List Int) (l s y : Int) (en : En) : dpL (mS cs l s)[0]? 0 "spot" (.int y) en (mS cs l s) = .ok (.next en (mS cs l y)) := nr rfl
def MOk (b : Nat) (st : Sto) : Prop := ∃ cs l s, st = mS cs l s ∧ cs ≠ [] ∧ cs.length ≤ 100 ∧ 0 ≤ s ∧ s ≤ (b : Int)
theorem MOk.mono {b b' : Nat} {st : Sto} (h : MOk b st) (hb : b ≤ b') : MOk b' st := by
  obtain ⟨cs, l, s, h1, h2, h3, h4, h5⟩ := h
  exact ⟨cs, l, s, h1, h2, h3, h4, by omega⟩
section
variable {wf n : Nat} {st : Sto}
theorem s_draw {b : Nat} {many : Int} (hM : MOk b st) (hb : b ≤ 100000) (h0 : 0 < many) (hf : fitI many = true) : ∃ v st', runF tbl glb wf (n + 1) "_law_draw" [.dic 0, .dat (.int many)] st = .ok (.dat (.int v), st') ∧ 0 ≤ v ∧ v < many ∧ MOk (b + 1) st' := by
  obtain ⟨cs, l, s, rfl, h2, h3, h4, h5⟩ := hM
  have hp : 0 < cs.length := by cases cs with | nil => exact absurd rfl h2 | cons x r => simp
  by_cases hl : 0 < l
  · refine ⟨l % many, mS cs (l / many) s, ?_, Int.emod_nonneg _ (by omega), Int.emod_lt_of_pos _ h0, cs, _, s, rfl, h2, h3, h4, by omega⟩
    refine run_def (fn := fn__law_draw) rfl rfl (by decide) ?_
    show evS _ _ _ ir__law_draw [_, _, none, none, none, none] _ = _
    simp only [e_var, k_val, k_own, e_glb, k_glb, k_cb, e_int, e_str, e_bl, e_non, e_bin, k_bin, j_bin, e_neg, k_neg, e_nt, k_nt, e_and, e_or, and1, and2, and_t, and_f, or1, or2, or_f, or_t, e_cmp, k_cmp, j_cmp, e_chn, k_chn, j_chn, l_chn, l_chf, e_ite, ite_t, ite_f, e_tup, k_tup, j_tup, e_lst, k_lst, j_lst, e_idx, k_idx, j_idx, e_slc, k_slc, j_slc, l_slc, o_nil, o_one, k_o, e_call, k_call, e_bif, k_bif, e_mth, k_mth, j_mth, e_isi, k_isi, e_lc, k_lc, j_lc, k_lce, k_lca_t, k_lca_f, k_lcb, ts_nil, ts_one, k_tb, e_dg, k_dg, e_dn, el_nil, el_cons, k_el, j_el, er_nil, er_cons, k_er, j_er, i_r1, k_r1, i_r2, k_r2, j_r2, i_en, k_enl, k_ent, i_zp, k_zp, j_zp, l_zp_ll, l_zp_tt, l_zp_tl, l_zp_lt, i_it, k_it, j_it, s_nil, s_seq, k_sqn, k_sqr, k_sqb, k_nx, s_asn, s_aso, ea, k_ea_f, k_ea_t, k_as, s_ast, k_ag, s_par, k_pa, j_pa, l_pa, s_aug, k_au, j_aua, j_aus, s_app, k_ap, j_ap, s_sit, k_si, j_si, l_si, s_a2, k_a2, j_a2, l_a2, s_dp, k_dp, j_dp, s_exp, k_ex, s_iff, k_ift, k_iff, s_for, k_fo, k_foe, s_whl, s_ret, k_re, s_retN, s_brk, s_pass, getS_zero, getS_succ, isOwn, putS, dats, c_lt, c_le, c_gt, c_ge, c_is_none, c_is_int, c_is_str, c_is_tup, c_is_lst, c_is_bool, c_isnot_none, c_isnot_int, c_isnot_str, c_isnot_tup, c_isnot_lst, c_isnot_bool, c_in_sgn, c_eq, c_ne, eqOk_str, eqOk_sh, b_add, b_sub, b_mul, b_mod, b_div, b_addl, b_addt, b_rep, l_lst, l_tup, l_str, i_int, x_lst, x_tup, x_str, m_min, it_l, it_t, it_s, t_lst, q_lst, q_tup, bif_len, bif_int, bif_min, bif_max, bif_sum, bif_sorted, bif_all, bif_any, bif_tuple, bif_list, bif_divmod, mth_count, mth_index, mth_join, List.length_cons, List.length_nil, if_true, if_false, Bool.false_eq_true, Bool.or_false, Bool.false_or, Bool.or_self, List.set_cons_zero, List.set_cons_succ, frz, List.map_cons, List.map_nil, frzS, bG_tp, bG_nm, bGs_nil, bGs_cons, ob_some, gd_t, ob_t, n2, at20, at21, eq_self, and_self, and_true, true_and, wipeE, decide_true, decide_false, Bool.not_true, Bool.not_false, isi_none_int, isi_none_bool, isi_none_str, isi_none_tuple, isi_none_list, isi_bool_int, isi_bool_bool, isi_bool_str, isi_bool_tuple, isi_bool_list, isi_int_int, isi_int_bool, isi_int_str, isi_int_tuple, isi_int_list, isi_str_int, isi_str_bool, isi_str_str, isi_str_tuple, isi_str_list, isi_tuple_int, isi_tuple_bool, isi_tuple_str, isi_tuple_tuple, isi_tuple_list, isi_list_int, isi_list_bool, isi_list_str, isi_list_tuple, isi_list_list, Option.map_some, ir__law_draw, dg_left, hl, h0, hf, Bool.and_self, dp_left, show (5 < 0 + 1 + 1 + 1 + 1 + 1 + 1) by decide]
  · generalize hq : s + 1 = q
    have q0 : 0 ≤ q := by omega
    have q1 : q ≤ 100001 := by omega
    have hr0 := Int.emod_nonneg q (by omega : (cs.length : Int) ≠ 0)
    have hr1 := Int.emod_lt_of_pos q (by omega : (0 : Int) < (cs.length : Int))
    obtain ⟨x, hx⟩ : ∃ x, cs[(q % (cs.length : Int)).toNat]? = some x := ⟨_, List.getElem?_eq_getElem (by omega)⟩
    have hix : idxD (.list (cs.map .int)) (.int (q % (cs.length : Int))) = some (.int x) := by
      rw [x_lst]
      have e : q % (cs.length : Int) = (((q % (cs.length : Int)).toNat : Nat) : Int) := by omega
      rw [e, at_map hx]
    have x0 := Int.emod_nonneg x (by decide : (2147483629 : Int) ≠ 0)
    have x1 := Int.emod_lt_of_pos x (by decide : (0 : Int) < 2147483629)
    have qq0 : 0 ≤ 23 * q * q := Int.mul_nonneg (by omega) q0
    have qq1 : 23 * q * q ≤ 2300023 * 100001 := Int.mul_le_mul (by omega) q1 q0 (by decide)
    generalize hw : x % 2147483629 + 6133 * q + 23 * q * q = w
    have w0 : 0 ≤ w := by omega
    have w1 : w ≤ 10 ^ 15 := by omega
    have y0 := Int.emod_nonneg (w * 48271) (by decide : (2147483647 : Int) ≠ 0)
    have y1 := Int.emod_lt_of_pos (w * 48271) (by decide : (0 : Int) < 2147483647)
    generalize hu : w * 48271 % 2147483647 + 93241 * q = u
    have u0 : 0 ≤ u := by omega
    have u1 : u ≤ 10 ^ 15 := by omega
    have small : ∀ z : Int, 0 ≤ z → z ≤ 10 ^ 15 → fitI z = true := fun z z0 z1 => fit_small z0 (Int.lt_of_le_of_lt z1 (by decide))
    refine ⟨u * 69621 % 2147483587 / 13 % many, mS cs l q, ?_, Int.emod_nonneg _ (by omega), Int.emod_lt_of_pos _ h0, cs, l, q, rfl, h2, h3, q0, by omega⟩
    refine run_def (fn := fn__law_draw) rfl rfl (by decide) ?_
    show evS _ _ _ ir__law_draw [_, _, none, none, none, none] _ = _
    simp only [e_var, k_val, k_own, e_glb, k_glb, k_cb, e_int, e_str, e_bl, e_non, e_bin, k_bin, j_bin, e_neg, k_neg, e_nt, k_nt, e_and, e_or, and1, and2, and_t, and_f, or1, or2, or_f, or_t, e_cmp, k_cmp, j_cmp, e_chn, k_chn, j_chn, l_chn, l_chf, e_ite, ite_t, ite_f, e_tup, k_tup, j_tup, e_lst, k_lst, j_lst, e_idx, k_idx, j_idx, e_slc, k_slc, j_slc, l_slc, o_nil, o_one, k_o, e_call, k_call, e_bif, k_bif, e_mth, k_mth, j_mth, e_isi, k_isi, e_lc, k_lc, j_lc, k_lce, k_lca_t, k_lca_f, k_lcb, ts_nil, ts_one, k_tb, e_dg, k_dg, e_dn, el_nil, el_cons, k_el, j_el, er_nil, er_cons, k_er, j_er, i_r1, k_r1, i_r2, k_r2, j_r2, i_en, k_enl, k_ent, i_zp, k_zp, j_zp, l_zp_ll, l_zp_tt, l_zp_tl, l_zp_lt, i_it, k_it, j_it, s_nil, s_seq, k_sqn, k_sqr, k_sqb, k_nx, s_asn, s_aso, ea, k_ea_f, k_ea_t, k_as, s_ast, k_ag, s_par, k_pa, j_pa, l_pa, s_aug, k_au, j_aua, j_aus, s_app, k_ap, j_ap, s_sit, k_si, j_si, l_si, s_a2, k_a2, j_a2, l_a2, s_dp, k_dp, j_dp, s_exp, k_ex, s_iff, k_ift, k_iff, s_for, k_fo, k_foe, s_whl, s_ret, k_re, s_retN, s_brk, s_pass, getS_zero, getS_succ, isOwn, putS, dats, c_lt, c_le, c_gt, c_ge, c_is_none, c_is_int, c_is_str, c_is_tup, c_is_lst, c_is_bool, c_isnot_none, c_isnot_int, c_isnot_str, c_isnot_tup, c_isnot_lst, c_isnot_bool, c_in_sgn, c_eq, c_ne, eqOk_str, eqOk_sh, b_add, b_sub, b_mul, b_mod, b_div, b_addl, b_addt, b_rep, l_lst, l_tup, l_str, i_int, x_lst, x_tup, x_str, m_min, it_l, it_t, it_s, t_lst, q_lst, q_tup, bif_len, bif_int, bif_min, bif_max, bif_sum, bif_sorted, bif_all, bif_any, bif_tuple, bif_list, bif_divmod, mth_count, mth_index, mth_join, List.length_cons, List.length_nil, if_true, if_false, Bool.false_eq_true, Bool.or_false, Bool.false_or, Bool.or_self, List.set_cons_zero, List.set_cons_succ, frz, List.map_cons, List.map_nil, frzS, bG_tp, bG_nm, bGs_nil, bGs_cons, ob_some, gd_t, ob_t, n2, at20, at21, eq_self, and_self, and_true, true_and, wipeE, decide_true, decide_false, Bool.not_true, Bool.not_false, isi_none_int, isi_none_bool, isi_none_str, isi_none_tuple, isi_none_list, isi_bool_int, isi_bool_bool, isi_bool_str, isi_bool_tuple, isi_bool_list, isi_int_int, isi_int_bool, isi_int_str, isi_int_tuple, isi_int_list, isi_str_int, isi_str_bool, isi_str_str, isi_str_tuple, isi_str_list, isi_tuple_int, isi_tuple_bool, isi_tuple_str, isi_tuple_tuple, isi_tuple_list, isi_list_int, isi_list_bool, isi_list_str, isi_list_tuple, isi_list_list, Option.map_some, ir__law_draw, dg_left, dg_spot, dg_cells, hl, dp_spot, hq, List.length_map, show (0 : Int) < (cs.length : Int) by omega, hix, show (2 < 0 + 1 + 1 + 1 + 1 + 1 + 1) by decide, show (3 < 0 + 1 + 1 + 1 + 1 + 1 + 1) by decide, show (4 < 0 + 1 + 1 + 1 + 1 + 1 + 1) by decide, show (0 : Int) < 2147483629 by decide, show (0 : Int) < 2147483647 by decide, show (0 : Int) < 2147483587 by decide, show (0 : Int) < 13 by decide, small 6133 (by decide) (by decide), small q q0 (by omega), small 23 (by decide) (by decide), small (23 * q) (by omega) (by omega), Bool.and_self, hw, small w w0 w1, small 48271 (by decide) (by decide), small 93241 (by decide) (by decide), hu, small u u0 u1, small 69621 (by decide) (by decide), small 13 (by decide) (by decide), h0]
theorem fit_le {i : Int} (h0 : 0 ≤ i) (h : i ≤ 10 ^ 31) : fitI i = true := fit_small h0 (Int.lt_of_le_of_lt h (by decide))
theorem s_of {b : Nat} {xs : List PyData} (hM : MOk b st) (hb : b ≤ 100000) (h0 : xs ≠ []) (hl : xs.length ≤ 1000) : ∃ d st', runF tbl glb wf (n + 2) "_law_of" [.dic 0, .dat (.list xs)] st = .ok (.dat d, st') ∧ d ∈ xs ∧ MOk (b + 1) st' := by
  have hp : 0 < xs.length := by cases xs with | nil => exact absurd rfl h0 | cons x r => simp
  obtain ⟨v, st', e, v0, v1, hM'⟩ := s_draw (wf := wf) (n := n) (many := (xs.length : Int)) hM hb (by omega) (fit_nat (by omega))
  obtain ⟨d, hd⟩ : ∃ d, xs[v.toNat]? = some d := ⟨_, List.getElem?_eq_getElem (by omega)⟩
  refine ⟨d, st', ?_, List.mem_of_getElem? hd, hM'⟩
  refine run_def (fn := fn__law_of) rfl rfl (by decide) ?_
  show evS _ _ _ ir__law_of [_, _] _ = _
  have hix : L2.atI xs v = some d := by
    have ev : v = ((v.toNat : Nat) : Int) := by omega
    rw [ev, atI_of hd]
  simp only [e_var, k_val, k_own, e_glb, k_glb, k_cb, e_int, e_str, e_bl, e_non, e_bin, k_bin, j_bin, e_neg, k_neg, e_nt, k_nt, e_and, e_or, and1, and2, and_t, and_f, or1, or2, or_f, or_t, e_cmp, k_cmp, j_cmp, e_chn, k_chn, j_chn, l_chn, l_chf, e_ite, ite_t, ite_f, e_tup, k_tup, j_tup, e_lst, k_lst, j_lst, e_idx, k_idx, j_idx, e_slc, k_slc, j_slc, l_slc, o_nil, o_one, k_o, e_call, k_call, e_bif, k_bif, e_mth, k_mth, j_mth, e_isi, k_isi, e_lc, k_lc, j_lc, k_lce, k_lca_t, k_lca_f, k_lcb, ts_nil, ts_one, k_tb, e_dg, k_dg, e_dn, el_nil, el_cons, k_el, j_el, er_nil, er_cons, k_er, j_er, i_r1, k_r1, i_r2, k_r2, j_r2, i_en, k_enl, k_ent, i_zp, k_zp, j_zp, l_zp_ll, l_zp_tt, l_zp_tl, l_zp_lt, i_it, k_it, j_it, s_nil, s_seq, k_sqn, k_sqr, k_sqb, k_nx, s_asn, s_aso, ea, k_ea_f, k_ea_t, k_as, s_ast, k_ag, s_par, k_pa, j_pa, l_pa, s_aug, k_au, j_aua, j_aus, s_app, k_ap, j_ap, s_sit, k_si, j_si, l_si, s_a2, k_a2, j_a2, l_a2, s_dp, k_dp, j_dp, s_exp, k_ex, s_iff, k_ift, k_iff, s_for, k_fo, k_foe, s_whl, s_ret, k_re, s_retN, s_brk, s_pass, getS_zero, getS_succ, isOwn, putS, dats, c_lt, c_le, c_gt, c_ge, c_is_none, c_is_int, c_is_str, c_is_tup, c_is_lst, c_is_bool, c_isnot_none, c_isnot_int, c_isnot_str, c_isnot_tup, c_isnot_lst, c_isnot_bool, c_in_sgn, c_eq, c_ne, eqOk_str, eqOk_sh, b_add, b_sub, b_mul, b_mod, b_div, b_addl, b_addt, b_rep, l_lst, l_tup, l_str, i_int, x_lst, x_tup, x_str, m_min, it_l, it_t, it_s, t_lst, q_lst, q_tup, bif_len, bif_int, bif_min, bif_max, bif_sum, bif_sorted, bif_all, bif_any, bif_tuple, bif_list, bif_divmod, mth_count, mth_index, mth_join, List.length_cons, List.length_nil, if_true, if_false, Bool.false_eq_true, Bool.or_false, Bool.false_or, Bool.or_self, List.set_cons_zero, List.set_cons_succ, frz, List.map_cons, List.map_nil, frzS, bG_tp, bG_nm, bGs_nil, bGs_cons, ob_some, gd_t, ob_t, n2, at20, at21, eq_self, and_self, and_true, true_and, wipeE, decide_true, decide_false, Bool.not_true, Bool.not_false, isi_none_int, isi_none_bool, isi_none_str, isi_none_tuple, isi_none_list, isi_bool_int, isi_bool_bool, isi_bool_str, isi_bool_tuple, isi_bool_list, isi_int_int, isi_int_bool, isi_int_str, isi_int_tuple, isi_int_list, isi_str_int, isi_str_bool, isi_str_str, isi_str_tuple, isi_str_list, isi_tuple_int, isi_tuple_bool, isi_tuple_str, isi_tuple_tuple, isi_tuple_list, isi_list_int, isi_list_bool, isi_list_str, isi_list_tuple, isi_list_list, Option.map_some, ir__law_of, e, hix]
/-! ### texts of figures -/
theorem six_at : ∀ d : Nat, d < 6 → idxD (.str "012345") (.int (d : Int)) = some (sgn (48 + d)) := by
  intro m hm
  rcases m with _ | _ | _ | _ | _ | _ | m
  all_goals first | (exfalso; omega) | rfl
theorem six_ix : ∀ d : Nat, d < 6 → indexD (.str "012345") [sgn (48 + d)] = some (.int (d : Int)) := by
  intro m hm
  rcases m with _ | _ | _ | _ | _ | _ | m
  all_goals first | (exfalso; omega) | rfl
theorem strs_sgn : ∀ l : Fig, strs? (l.map fun x => sgn (48 + x)) = some (l.map fun x => (⟨#[48 + x]⟩ : Str))
  | [] => rfl
  | x :: r => by
    rw [List.map_cons]
    show (strs? (r.map fun x => sgn (48 + x))).map (_ :: ·) = _
    rw [strs_sgn r]
    rfl
theorem join_sgn {l : Fig} (hl : l.length ≤ 1000000) : joinD (.str "") [.list (l.map fun x => sgn (48 + x))] = some (.str (enc l)) := by
  have e1 : ((l.map fun x => (⟨#[48 + x]⟩ : Str)).map (·.length)).sum = l.length := by
    clear hl
    induction l with
    | nil => rfl
    | cons x r ih => simp only [List.map_cons, List.sum_cons, ih, List.length_cons]; show 1 + r.length = r.length + 1; omega
  have e2 : (l.map fun x => (⟨#[48 + x]⟩ : Str)).flatMap txt = l.map (48 + ·) := by
    clear hl e1
    induction l with
    | nil => rfl
    | cons x r ih => rw [List.map_cons, List.flatMap_cons, ih]; rfl
  simp only [joinD, strs_sgn, Option.bind_some, e1, e2]
  rw [if_pos ⟨rfl, le_line hl⟩]
  rfl
theorem pick_sgn {P : Nat → Prop} : ∀ ys : List PyData, (∀ d ∈ ys, ∃ x, P x ∧ d = sgn (48 + x)) → ∃ l : Fig, ys = l.map (fun x => sgn (48 + x)) ∧ ∀ x ∈ l, P x
  | [], _ => ⟨[], rfl, fun x hx => by cases hx⟩
  | y :: r, h => by
    obtain ⟨x, hx, rfl⟩ := h y (List.mem_cons_self ..)
    obtain ⟨l, rfl, hl⟩ := pick_sgn r fun d hd => h d (List.mem_cons_of_mem _ hd)
    exact ⟨x :: l, rfl, fun z hz => by
      rcases List.mem_cons.mp hz with rfl | hz
      · exact hx
      · exact hl z hz⟩
theorem s_figures {b m long : Nat} (hM : MOk b st) (hb : b ≤ 90000) (h0 : 0 < m) (hm : m ≤ 6) (hl0 : 0 < long) (hl : long ≤ 400) : ∃ f st', runF tbl glb wf (n + 2) "_law_figures" [.dic 0, .dat (.int (m : Int)), .dat (.int (long : Int))] st = .ok (.dat (.str (enc f)), st') ∧ FigOk m f ∧ MOk (b + 1 + long) st' := by
  obtain ⟨v, st1, e1, v0, v1, hM1⟩ := s_draw (wf := wf) (n := n) (many := (long : Int)) hM (by omega) (by omega) (fit_nat (by omega))
  have hlen : (upto 0 (1 + v).toNat).length = (1 + v).toNat := by rw [upto_map]; simp
  obtain ⟨ys, st2, e2, l2, p2, hM2⟩ := lcT_ok (F := runF tbl glb wf (n + 1)) (G' := glb) (elt := .idx (.cstr "012345") (.call "_law_draw" (.cons (.var 0) (.cons (.var 1) .nil)))) (ifs := .nil) (tg := .nm 3) (en := [some (.val (.dic 0)), some (.val (.dat (.int (m : Int)))), some (.val (.dat (.int (long : Int)))), none]) (st := st1) (xs := upto 0 (1 + v).toNat)
    (fun i s => MOk (b + 1 + i) s) (fun d => ∃ x, x < m ∧ d = sgn (48 + x)) hM1 (fun x hx i s hi hI => by
      rw [hlen] at hi
      obtain ⟨w, s', e, w0, w1, hM'⟩ := s_draw (wf := wf) (n := n) (many := (m : Int)) hI (by omega) (by omega) (fit_nat (by omega))
      have ew : w = ((w.toNat : Nat) : Int) := by omega
      refine ⟨sgn (48 + w.toNat), s', ?_, ⟨w.toNat, by omega, rfl⟩, hM'⟩
      rw [ew] at e
      simp only [e_var, k_val, k_own, e_glb, k_glb, k_cb, e_int, e_str, e_bl, e_non, e_bin, k_bin, j_bin, e_neg, k_neg, e_nt, k_nt, e_and, e_or, and1, and2, and_t, and_f, or1, or2, or_f, or_t, e_cmp, k_cmp, j_cmp, e_chn, k_chn, j_chn, l_chn, l_chf, e_ite, ite_t, ite_f, e_tup, k_tup, j_tup, e_lst, k_lst, j_lst, e_idx, k_idx, j_idx, e_slc, k_slc, j_slc, l_slc, o_nil, o_one, k_o, e_call, k_call, e_bif, k_bif, e_mth, k_mth, j_mth, e_isi, k_isi, e_lc, k_lc, j_lc, k_lce, k_lca_t, k_lca_f, k_lcb, ts_nil, ts_one, k_tb, e_dg, k_dg, e_dn, el_nil, el_cons, k_el, j_el, er_nil, er_cons, k_er, j_er, i_r1, k_r1, i_r2, k_r2, j_r2, i_en, k_enl, k_ent, i_zp, k_zp, j_zp, l_zp_ll, l_zp_tt, l_zp_tl, l_zp_lt, i_it, k_it, j_it, s_nil, s_seq, k_sqn, k_sqr, k_sqb, k_nx, s_asn, s_aso, ea, k_ea_f, k_ea_t, k_as, s_ast, k_ag, s_par, k_pa, j_pa, l_pa, s_aug, k_au, j_aua, j_aus, s_app, k_ap, j_ap, s_sit, k_si, j_si, l_si, s_a2, k_a2, j_a2, l_a2, s_dp, k_dp, j_dp, s_exp, k_ex, s_iff, k_ift, k_iff, s_for, k_fo, k_foe, s_whl, s_ret, k_re, s_retN, s_brk, s_pass, getS_zero, getS_succ, isOwn, putS, dats, c_lt, c_le, c_gt, c_ge, c_is_none, c_is_int, c_is_str, c_is_tup, c_is_lst, c_is_bool, c_isnot_none, c_isnot_int, c_isnot_str, c_isnot_tup, c_isnot_lst, c_isnot_bool, c_in_sgn, c_eq, c_ne, eqOk_str, eqOk_sh, b_add, b_sub, b_mul, b_mod, b_div, b_addl, b_addt, b_rep, l_lst, l_tup, l_str, i_int, x_lst, x_tup, x_str, m_min, it_l, it_t, it_s, t_lst, q_lst, q_tup, bif_len, bif_int, bif_min, bif_max, bif_sum, bif_sorted, bif_all, bif_any, bif_tuple, bif_list, bif_divmod, mth_count, mth_index, mth_join, List.length_cons, List.length_nil, if_true, if_false, Bool.false_eq_true, Bool.or_false, Bool.false_or, Bool.or_self, List.set_cons_zero, List.set_cons_succ, frz, List.map_cons, List.map_nil, frzS, bG_tp, bG_nm, bGs_nil, bGs_cons, ob_some, gd_t, ob_t, n2, at20, at21, eq_self, and_self, and_true, true_and, wipeE, decide_true, decide_false, Bool.not_true, Bool.not_false, isi_none_int, isi_none_bool, isi_none_str, isi_none_tuple, isi_none_list, isi_bool_int, isi_bool_bool, isi_bool_str, isi_bool_tuple, isi_bool_list, isi_int_int, isi_int_bool, isi_int_str, isi_int_tuple, isi_int_list, isi_str_int, isi_str_bool, isi_str_str, isi_str_tuple, isi_str_list, isi_tuple_int, isi_tuple_bool, isi_tuple_str, isi_tuple_tuple, isi_tuple_list, isi_list_int, isi_list_bool, isi_list_str, isi_list_tuple, isi_list_list, Option.map_some, show (3 < 0 + 1 + 1 + 1 + 1) by decide, e, six_at w.toNat (by omega)])
  obtain ⟨f, rfl, hf⟩ := pick_sgn ys p2
  rw [hlen] at l2 hM2
  rw [List.length_map] at l2
  refine ⟨f, st2, ?_, ⟨fun z => by rw [z] at l2; simp at l2; omega, by omega, hf⟩, hM2.mono (by omega)⟩
  refine run_def (fn := fn__law_figures) rfl rfl (by decide) ?_
  show evS _ _ _ ir__law_figures [_, _, _, none] _ = _
  simp only [e_var, k_val, k_own, e_glb, k_glb, k_cb, e_int, e_str, e_bl, e_non, e_bin, k_bin, j_bin, e_neg, k_neg, e_nt, k_nt, e_and, e_or, and1, and2, and_t, and_f, or1, or2, or_f, or_t, e_cmp, k_cmp, j_cmp, e_chn, k_chn, j_chn, l_chn, l_chf, e_ite, ite_t, ite_f, e_tup, k_tup, j_tup, e_lst, k_lst, j_lst, e_idx, k_idx, j_idx, e_slc, k_slc, j_slc, l_slc, o_nil, o_one, k_o, e_call, k_call, e_bif, k_bif, e_mth, k_mth, j_mth, e_isi, k_isi, e_lc, k_lc, j_lc, k_lce, k_lca_t, k_lca_f, k_lcb, ts_nil, ts_one, k_tb, e_dg, k_dg, e_dn, el_nil, el_cons, k_el, j_el, er_nil, er_cons, k_er, j_er, i_r1, k_r1, i_r2, k_r2, j_r2, i_en, k_enl, k_ent, i_zp, k_zp, j_zp, l_zp_ll, l_zp_tt, l_zp_tl, l_zp_lt, i_it, k_it, j_it, s_nil, s_seq, k_sqn, k_sqr, k_sqb, k_nx, s_asn, s_aso, ea, k_ea_f, k_ea_t, k_as, s_ast, k_ag, s_par, k_pa, j_pa, l_pa, s_aug, k_au, j_aua, j_aus, s_app, k_ap, j_ap, s_sit, k_si, j_si, l_si, s_a2, k_a2, j_a2, l_a2, s_dp, k_dp, j_dp, s_exp, k_ex, s_iff, k_ift, k_iff, s_for, k_fo, k_foe, s_whl, s_ret, k_re, s_retN, s_brk, s_pass, getS_zero, getS_succ, isOwn, putS, dats, c_lt, c_le, c_gt, c_ge, c_is_none, c_is_int, c_is_str, c_is_tup, c_is_lst, c_is_bool, c_isnot_none, c_isnot_int, c_isnot_str, c_isnot_tup, c_isnot_lst, c_isnot_bool, c_in_sgn, c_eq, c_ne, eqOk_str, eqOk_sh, b_add, b_sub, b_mul, b_mod, b_div, b_addl, b_addt, b_rep, l_lst, l_tup, l_str, i_int, x_lst, x_tup, x_str, m_min, it_l, it_t, it_s, t_lst, q_lst, q_tup, bif_len, bif_int, bif_min, bif_max, bif_sum, bif_sorted, bif_all, bif_any, bif_tuple, bif_list, bif_divmod, mth_count, mth_index, mth_join, List.length_cons, List.length_nil, if_true, if_false, Bool.false_eq_true, Bool.or_false, Bool.false_or, Bool.or_self, List.set_cons_zero, List.set_cons_succ, frz, List.map_cons, List.map_nil, frzS, bG_tp, bG_nm, bGs_nil, bGs_cons, ob_some, gd_t, ob_t, n2, at20, at21, eq_self, and_self, and_true, true_and, wipeE, decide_true, decide_false, Bool.not_true, Bool.not_false, isi_none_int, isi_none_bool, isi_none_str, isi_none_tuple, isi_none_list, isi_bool_int, isi_bool_bool, isi_bool_str, isi_bool_tuple, isi_bool_list, isi_int_int, isi_int_bool, isi_int_str, isi_int_tuple, isi_int_list, isi_str_int, isi_str_bool, isi_str_str, isi_str_tuple, isi_str_list, isi_tuple_int, isi_tuple_bool, isi_tuple_str, isi_tuple_tuple, isi_tuple_list, isi_list_int, isi_list_bool, isi_list_str, isi_list_tuple, isi_list_list, Option.map_some, ir__law_figures, e1, show fit62 (1 + v) = true from decide_eq_true (by omega), e2, List.length_map, le_line (n := f.length) (by omega), join_sgn (l := f) (by omega)]
theorem s_runs {b m many top long : Nat} (hM : MOk b st) (hb : b ≤ 10000) (h0 : 0 < m) (hm : m ≤ 6) (h1 : 0 < many) (h2 : many ≤ 20) (h3 : 0 < top) (h4 : top ≤ 1000000) (h5 : 0 < long) (h6 : long ≤ 60) :
    ∃ rs f st', runF tbl glb wf (n + 3) "_law_runs" [.dic 0, .dat (.int (m : Int)), .dat (.int (many : Int)), .dat (.int (top : Int)), .dat (.int (long : Int))] st = .ok (.dat (rsD (full rs f)), st') ∧ rs.length < many ∧ FigOk m f ∧ (∀ r ∈ rs, FigOk m r.2 ∧ 1 ≤ r.1 ∧ r.1 ≤ (top : Int)) ∧ MOk (b + many * (long + 2) + long + 2) st' := by
  obtain ⟨v, st1, e1, v0, v1, hM1⟩ := s_draw (wf := wf) (n := n + 1) (many := (many : Int)) hM (by omega) (by omega) (fit_nat (by omega))
  have hlen : (upto 0 v.toNat).length = v.toNat := by rw [upto_map]; simp
  have key : Ok (evS (runF tbl glb wf (n + 2)) glb wf ir__law_runs [some (.val (.dic 0)), some (.val (.dat (.int (m : Int)))), some (.val (.dat (.int (many : Int)))), some (.val (.dat (.int (top : Int)))), some (.val (.dat (.int (long : Int)))), none, none] st)
      (fun o => ∃ rs f st', o = .ret (.dat (rsD (full rs f))) st' ∧ rs.length < many ∧ FigOk m f ∧ (∀ r ∈ rs, FigOk m r.2 ∧ 1 ≤ r.1 ∧ r.1 ≤ (top : Int)) ∧ MOk (b + many * (long + 2) + long + 2) st') := by
    simp only [e_var, k_val, k_own, e_glb, k_glb, k_cb, e_int, e_str, e_bl, e_non, e_bin, k_bin, j_bin, e_neg, k_neg, e_nt, k_nt, e_and, e_or, and1, and2, and_t, and_f, or1, or2, or_f, or_t, e_cmp, k_cmp, j_cmp, e_chn, k_chn, j_chn, l_chn, l_chf, e_ite, ite_t, ite_f, e_tup, k_tup, j_tup, e_lst, k_lst, j_lst, e_idx, k_idx, j_idx, e_slc, k_slc, j_slc, l_slc, o_nil, o_one, k_o, e_call, k_call, e_bif, k_bif, e_mth, k_mth, j_mth, e_isi, k_isi, e_lc, k_lc, j_lc, k_lce, k_lca_t, k_lca_f, k_lcb, ts_nil, ts_one, k_tb, e_dg, k_dg, e_dn, el_nil, el_cons, k_el, j_el, er_nil, er_cons, k_er, j_er, i_r1, k_r1, i_r2, k_r2, j_r2, i_en, k_enl, k_ent, i_zp, k_zp, j_zp, l_zp_ll, l_zp_tt, l_zp_tl, l_zp_lt, i_it, k_it, j_it, s_nil, s_seq, k_sqn, k_sqr, k_sqb, k_nx, s_asn, s_aso, ea, k_ea_f, k_ea_t, k_as, s_ast, k_ag, s_par, k_pa, j_pa, l_pa, s_aug, k_au, j_aua, j_aus, s_app, k_ap, j_ap, s_sit, k_si, j_si, l_si, s_a2, k_a2, j_a2, l_a2, s_dp, k_dp, j_dp, s_exp, k_ex, s_iff, k_ift, k_iff, s_for, k_fo, k_foe, s_whl, s_ret, k_re, s_retN, s_brk, s_pass, getS_zero, getS_succ, isOwn, putS, dats, c_lt, c_le, c_gt, c_ge, c_is_none, c_is_int, c_is_str, c_is_tup, c_is_lst, c_is_bool, c_isnot_none, c_isnot_int, c_isnot_str, c_isnot_tup, c_isnot_lst, c_isnot_bool, c_in_sgn, c_eq, c_ne, eqOk_str, eqOk_sh, b_add, b_sub, b_mul, b_mod, b_div, b_addl, b_addt, b_rep, l_lst, l_tup, l_str, i_int, x_lst, x_tup, x_str, m_min, it_l, it_t, it_s, t_lst, q_lst, q_tup, bif_len, bif_int, bif_min, bif_max, bif_sum, bif_sorted, bif_all, bif_any, bif_tuple, bif_list, bif_divmod, mth_count, mth_index, mth_join, List.length_cons, List.length_nil, if_true, if_false, Bool.false_eq_true, Bool.or_false, Bool.false_or, Bool.or_self, List.set_cons_zero, List.set_cons_succ, frz, List.map_cons, List.map_nil, frzS, bG_tp, bG_nm, bGs_nil, bGs_cons, ob_some, gd_t, ob_t, n2, at20, at21, eq_self, and_self, and_true, true_and, wipeE, decide_true, decide_false, Bool.not_true, Bool.not_false, isi_none_int, isi_none_bool, isi_none_str, isi_none_tuple, isi_none_list, isi_bool_int, isi_bool_bool, isi_bool_str, isi_bool_tuple, isi_bool_list, isi_int_int, isi_int_bool, isi_int_str, isi_int_tuple, isi_int_list, isi_str_int, isi_str_bool, isi_str_str, isi_str_tuple, isi_str_list, isi_tuple_int, isi_tuple_bool, isi_tuple_str, isi_tuple_tuple, isi_tuple_list, isi_list_int, isi_list_bool, isi_list_str, isi_list_tuple, isi_list_list, Option.map_some, ir__law_runs, show 0 ≤ line by decide, show (5 < 0 + 1 + 1 + 1 + 1 + 1 + 1 + 1) by decide, e1, show fit62 v = true from decide_eq_true (by omega)]
    refine foT_seq (fun i en' st' => ∃ (rs : Rs) (z : Option Slot), en' = [some (.val (.dic 0)), some (.val (.dat (.int (m : Int)))), some (.val (.dat (.int (many : Int)))), some (.val (.dat (.int (top : Int)))), some (.val (.dat (.int (long : Int)))), some (.own (rs.map fun r => rnD (some r.1, r.2))), z] ∧ rs.length = i ∧ (∀ r ∈ rs, FigOk m r.2 ∧ 1 ≤ r.1 ∧ r.1 ≤ (top : Int)) ∧ MOk (b + 1 + i * (long + 2)) st') ⟨[], none, rfl, rfl, (fun r hr => by cases hr), by simpa using hM1⟩ (fun i x en' st' hx hI => ?_) (fun en' st' hI => ?_)
    · obtain ⟨rs, z, rfl, hl, hr, hM2⟩ := hI
      have hi : i < v.toNat := by
        have := (List.getElem?_eq_some_iff.mp hx).1
        rwa [hlen] at this
      have hmul : i * (long + 2) ≤ 20 * 62 := Nat.mul_le_mul (by omega) (by omega)
      obtain ⟨w, st2, e2, w0, w1, hM3⟩ := s_draw (wf := wf) (n := n + 1) (many := (top : Int)) hM2 (by omega) (by omega) (fit_nat (by omega))
      obtain ⟨f, st3, e3, hf, hM4⟩ := s_figures (wf := wf) (n := n) (m := m) (long := long) hM3 (by omega) h0 hm h5 (by omega)
      simp only [e_var, k_val, k_own, e_glb, k_glb, k_cb, e_int, e_str, e_bl, e_non, e_bin, k_bin, j_bin, e_neg, k_neg, e_nt, k_nt, e_and, e_or, and1, and2, and_t, and_f, or1, or2, or_f, or_t, e_cmp, k_cmp, j_cmp, e_chn, k_chn, j_chn, l_chn, l_chf, e_ite, ite_t, ite_f, e_tup, k_tup, j_tup, e_lst, k_lst, j_lst, e_idx, k_idx, j_idx, e_slc, k_slc, j_slc, l_slc, o_nil, o_one, k_o, e_call, k_call, e_bif, k_bif, e_mth, k_mth, j_mth, e_isi, k_isi, e_lc, k_lc, j_lc, k_lce, k_lca_t, k_lca_f, k_lcb, ts_nil, ts_one, k_tb, e_dg, k_dg, e_dn, el_nil, el_cons, k_el, j_el, er_nil, er_cons, k_er, j_er, i_r1, k_r1, i_r2, k_r2, j_r2, i_en, k_enl, k_ent, i_zp, k_zp, j_zp, l_zp_ll, l_zp_tt, l_zp_tl, l_zp_lt, i_it, k_it, j_it, s_nil, s_seq, k_sqn, k_sqr, k_sqb, k_nx, s_asn, s_aso, ea, k_ea_f, k_ea_t, k_as, s_ast, k_ag, s_par, k_pa, j_pa, l_pa, s_aug, k_au, j_aua, j_aus, s_app, k_ap, j_ap, s_sit, k_si, j_si, l_si, s_a2, k_a2, j_a2, l_a2, s_dp, k_dp, j_dp, s_exp, k_ex, s_iff, k_ift, k_iff, s_for, k_fo, k_foe, s_whl, s_ret, k_re, s_retN, s_brk, s_pass, getS_zero, getS_succ, isOwn, putS, dats, c_lt, c_le, c_gt, c_ge, c_is_none, c_is_int, c_is_str, c_is_tup, c_is_lst, c_is_bool, c_isnot_none, c_isnot_int, c_isnot_str, c_isnot_tup, c_isnot_lst, c_isnot_bool, c_in_sgn, c_eq, c_ne, eqOk_str, eqOk_sh, b_add, b_sub, b_mul, b_mod, b_div, b_addl, b_addt, b_rep, l_lst, l_tup, l_str, i_int, x_lst, x_tup, x_str, m_min, it_l, it_t, it_s, t_lst, q_lst, q_tup, bif_len, bif_int, bif_min, bif_max, bif_sum, bif_sorted, bif_all, bif_any, bif_tuple, bif_list, bif_divmod, mth_count, mth_index, mth_join, List.length_cons, List.length_nil, if_true, if_false, Bool.false_eq_true, Bool.or_false, Bool.false_or, Bool.or_self, List.set_cons_zero, List.set_cons_succ, frz, List.map_cons, List.map_nil, frzS, bG_tp, bG_nm, bGs_nil, bGs_cons, ob_some, gd_t, ob_t, n2, at20, at21, eq_self, and_self, and_true, true_and, wipeE, decide_true, decide_false, Bool.not_true, Bool.not_false, isi_none_int, isi_none_bool, isi_none_str, isi_none_tuple, isi_none_list, isi_bool_int, isi_bool_bool, isi_bool_str, isi_bool_tuple, isi_bool_list, isi_int_int, isi_int_bool, isi_int_str, isi_int_tuple, isi_int_list, isi_str_int, isi_str_bool, isi_str_str, isi_str_tuple, isi_str_list, isi_tuple_int, isi_tuple_bool, isi_tuple_str, isi_tuple_tuple, isi_tuple_list, isi_list_int, isi_list_bool, isi_list_str, isi_list_tuple, isi_list_list, Option.map_some, show (6 < 0 + 1 + 1 + 1 + 1 + 1 + 1 + 1) by decide, e2, e3, show 0 + 1 + 1 ≤ line by decide, List.length_map, lt_line (n := rs.length) (by omega)]
      refine ⟨_, rfl, _, _, rfl, rs ++ [(1 + w, f)], _, by rw [List.map_append]; rfl, by simp [hl], fun r hr' => ?_, hM4.mono ?_⟩
      · rcases List.mem_append.mp hr' with hr' | hr'
        · exact hr r hr'
        · rw [List.mem_singleton.mp hr']
          exact ⟨hf, by show (1 : Int) ≤ 1 + w; omega, by show 1 + w ≤ (top : Int); omega⟩
      · rw [Nat.succ_mul]
        omega
    · obtain ⟨rs, z, rfl, hl, hr, hM2⟩ := hI
      rw [hlen] at hl hM2
      have hmul : v.toNat * (long + 2) ≤ 20 * 62 := Nat.mul_le_mul (by omega) (by omega)
      have hmul2 : v.toNat * (long + 2) ≤ many * (long + 2) := Nat.mul_le_mul_right _ (by omega)
      obtain ⟨f, st3, e3, hf, hM4⟩ := s_figures (wf := wf) (n := n) (m := m) (long := long) hM2 (by omega) h0 hm h5 (by omega)
      simp only [e_var, k_val, k_own, e_glb, k_glb, k_cb, e_int, e_str, e_bl, e_non, e_bin, k_bin, j_bin, e_neg, k_neg, e_nt, k_nt, e_and, e_or, and1, and2, and_t, and_f, or1, or2, or_f, or_t, e_cmp, k_cmp, j_cmp, e_chn, k_chn, j_chn, l_chn, l_chf, e_ite, ite_t, ite_f, e_tup, k_tup, j_tup, e_lst, k_lst, j_lst, e_idx, k_idx, j_idx, e_slc, k_slc, j_slc, l_slc, o_nil, o_one, k_o, e_call, k_call, e_bif, k_bif, e_mth, k_mth, j_mth, e_isi, k_isi, e_lc, k_lc, j_lc, k_lce, k_lca_t, k_lca_f, k_lcb, ts_nil, ts_one, k_tb, e_dg, k_dg, e_dn, el_nil, el_cons, k_el, j_el, er_nil, er_cons, k_er, j_er, i_r1, k_r1, i_r2, k_r2, j_r2, i_en, k_enl, k_ent, i_zp, k_zp, j_zp, l_zp_ll, l_zp_tt, l_zp_tl, l_zp_lt, i_it, k_it, j_it, s_nil, s_seq, k_sqn, k_sqr, k_sqb, k_nx, s_asn, s_aso, ea, k_ea_f, k_ea_t, k_as, s_ast, k_ag, s_par, k_pa, j_pa, l_pa, s_aug, k_au, j_aua, j_aus, s_app, k_ap, j_ap, s_sit, k_si, j_si, l_si, s_a2, k_a2, j_a2, l_a2, s_dp, k_dp, j_dp, s_exp, k_ex, s_iff, k_ift, k_iff, s_for, k_fo, k_foe, s_whl, s_ret, k_re, s_retN, s_brk, s_pass, getS_zero, getS_succ, isOwn, putS, dats, c_lt, c_le, c_gt, c_ge, c_is_none, c_is_int, c_is_str, c_is_tup, c_is_lst, c_is_bool, c_isnot_none, c_isnot_int, c_isnot_str, c_isnot_tup, c_isnot_lst, c_isnot_bool, c_in_sgn, c_eq, c_ne, eqOk_str, eqOk_sh, b_add, b_sub, b_mul, b_mod, b_div, b_addl, b_addt, b_rep, l_lst, l_tup, l_str, i_int, x_lst, x_tup, x_str, m_min, it_l, it_t, it_s, t_lst, q_lst, q_tup, bif_len, bif_int, bif_min, bif_max, bif_sum, bif_sorted, bif_all, bif_any, bif_tuple, bif_list, bif_divmod, mth_count, mth_index, mth_join, List.length_cons, List.length_nil, if_true, if_false, Bool.false_eq_true, Bool.or_false, Bool.false_or, Bool.or_self, List.set_cons_zero, List.set_cons_succ, frz, List.map_cons, List.map_nil, frzS, bG_tp, bG_nm, bGs_nil, bGs_cons, ob_some, gd_t, ob_t, n2, at20, at21, eq_self, and_self, and_true, true_and, wipeE, decide_true, decide_false, Bool.not_true, Bool.not_false, isi_none_int, isi_none_bool, isi_none_str, isi_none_tuple, isi_none_list, isi_bool_int, isi_bool_bool, isi_bool_str, isi_bool_tuple, isi_bool_list, isi_int_int, isi_int_bool, isi_int_str, isi_int_tuple, isi_int_list, isi_str_int, isi_str_bool, isi_str_str, isi_str_tuple, isi_str_list, isi_tuple_int, isi_tuple_bool, isi_tuple_str, isi_tuple_tuple, isi_tuple_list, isi_list_int, isi_list_bool, isi_list_str, isi_list_tuple, isi_list_list, Option.map_some, e3, show 0 + 1 + 1 ≤ line by decide, show 0 + 1 ≤ line by decide, List.length_map, le_line (n := rs.length + (0 + 1)) (by omega)]
      refine ⟨_, rfl, rs, f, st3, ?_, by omega, hf, hr, hM4.mono (by omega)⟩
      simp only [rsD, full, List.map_append, List.map_map]
      rfl
  obtain ⟨o, e, rs, f, st', rfl, r1, r2, r3, r4⟩ := key
  exact ⟨rs, f, st', run_def (fn := fn__law_runs) rfl rfl (by decide) e, r1, r2, r3, r4⟩
end
end Rm

set_option Elab.async false
set_option linter.all false
set_option maxRecDepth 100000
set_option maxHeartbeats 1000000
/-! Rv, mathematics: the law's deals. -/
namespace Rm
open Rv
open PySem
def nA : List Str := ["a", "b", "c", "d", "e", "f"]
def nB : List Str := ["ada", "bob", "cy", "dan", "eve", "flo"]
def nC : List Str := ["a", "aa", "ab", "b", "zz", "zzzzzz"]
def People (ps : List Str) : Prop := ∃ X k, (X = nA ∨ X = nB ∨ X = nC) ∧ 1 ≤ k ∧ k ≤ 6 ∧ ps = X.take k
theorem People.all {P : List Str → Prop} (h : ∀ k : Fin 6, P (nA.take (k.val + 1)) ∧ P (nB.take (k.val + 1)) ∧ P (nC.take (k.val + 1))) {ps : List Str} (hp : People ps) : P ps := by
  obtain ⟨X, k, hX, h1, h2, rfl⟩ := hp
  have := h ⟨k - 1, by omega⟩
  simp only [show k - 1 + 1 = k by omega] at this
  rcases hX with rfl | rfl | rfl
  · exact this.1
  · exact this.2.1
  · exact this.2.2
theorem People.len {ps : List Str} (hp : People ps) : 1 ≤ ps.length ∧ ps.length ≤ 6 := People.all (P := fun ps => 1 ≤ ps.length ∧ ps.length ≤ 6) (by decide +kernel) hp
theorem People.nodup {ps : List Str} (hp : People ps) : ps.Nodup := People.all (P := fun ps => ps.Nodup) (by decide +kernel) hp
theorem People.names {ps : List Str} (hp : People ps) : ∀ (wf n : Nat) (st : Sto), runF tbl glb wf (n + 2) "are_names" [.dat (psD ps)] st = .ok (.dat (.bool true), st) := by
  refine People.all (P := fun ps => ∀ (wf n : Nat) (st : Sto), runF tbl glb wf (n + 2) "are_names" [.dat (psD ps)] st = .ok (.dat (.bool true), st)) (fun k => ?_) hp
  match k with
  | ⟨0, _⟩ => exact ⟨fun _ _ _ => rfl, fun _ _ _ => rfl, fun _ _ _ => rfl⟩
  | ⟨1, _⟩ => exact ⟨fun _ _ _ => rfl, fun _ _ _ => rfl, fun _ _ _ => rfl⟩
  | ⟨2, _⟩ => exact ⟨fun _ _ _ => rfl, fun _ _ _ => rfl, fun _ _ _ => rfl⟩
  | ⟨3, _⟩ => exact ⟨fun _ _ _ => rfl, fun _ _ _ => rfl, fun _ _ _ => rfl⟩
  | ⟨4, _⟩ => exact ⟨fun _ _ _ => rfl, fun _ _ _ => rfl, fun _ _ _ => rfl⟩
  | ⟨5, _⟩ => exact ⟨fun _ _ _ => rfl, fun _ _ _ => rfl, fun _ _ _ => rfl⟩
theorem slice_ps {ps : List Str} {r : Int} (h : 0 ≤ r) : sliceD (psD ps) none (some r) = some (psD (ps.take r.toNat)) := by
  simp only [psD, sliceD, cut_take _ _ h, List.map_take]
theorem l_ps (ps : List Str) : lenD [psD ps] = some (.int (ps.length : Int)) := by simp only [psD, l_tup, List.length_map]
section
variable {wf n : Nat} {st : Sto}
theorem s_people {b most : Nat} (hM : MOk b st) (hb : b ≤ 90000) (hm0 : 0 < most) (hm : most ≤ 6) : ∃ ps st', runF tbl glb wf (n + 3) "_law_people" [.dic 0, .dat (.int (most : Int))] st = .ok (.dat (psD ps), st') ∧ People ps ∧ ps.length ≤ most ∧ MOk (b + 2) st' := by
  obtain ⟨d, st1, e1, hd, hM1⟩ := s_of (wf := wf) (n := n) (xs := [psD nA, psD nB] ++ [psD nC]) hM (by omega) (by simp) (by simp)
  obtain ⟨v, st2, e2, v0, v1, hM2⟩ := s_draw (wf := wf) (n := n + 1) (many := (most : Int)) hM1 (by omega) (by omega) (fit_nat (by omega))
  obtain ⟨X, hX, rfl⟩ : ∃ X, (X = nA ∨ X = nB ∨ X = nC) ∧ d = psD X := by
    simp only [List.cons_append, List.nil_append, List.mem_cons, List.not_mem_nil, or_false] at hd
    rcases hd with h | h | h
    · exact ⟨nA, .inl rfl, h⟩
    · exact ⟨nB, .inr (.inl rfl), h⟩
    · exact ⟨nC, .inr (.inr rfl), h⟩
  refine ⟨X.take (1 + v).toNat, st2, ?_, ⟨X, (1 + v).toNat, hX, by omega, by omega, rfl⟩, by rw [List.length_take]; omega, hM2⟩
  refine run_def (fn := fn__law_people) rfl rfl (by decide) ?_
  show evS _ _ _ ir__law_people [_, _, none] _ = _
  have hl : ∀ xs : List PyData, xs.length ≤ 100 → xs.length ≤ line := fun xs h => le_line (by omega)
  simp only [psD, nA, nB, nC, List.map_cons, List.map_nil] at e1
  simp only [e_var, k_val, k_own, e_glb, k_glb, k_cb, e_int, e_str, e_bl, e_non, e_bin, k_bin, j_bin, e_neg, k_neg, e_nt, k_nt, e_and, e_or, and1, and2, and_t, and_f, or1, or2, or_f, or_t, e_cmp, k_cmp, j_cmp, e_chn, k_chn, j_chn, l_chn, l_chf, e_ite, ite_t, ite_f, e_tup, k_tup, j_tup, e_lst, k_lst, j_lst, e_idx, k_idx, j_idx, e_slc, k_slc, j_slc, l_slc, o_nil, o_one, k_o, e_call, k_call, e_bif, k_bif, e_mth, k_mth, j_mth, e_isi, k_isi, e_lc, k_lc, j_lc, k_lce, k_lca_t, k_lca_f, k_lcb, ts_nil, ts_one, k_tb, e_dg, k_dg, e_dn, el_nil, el_cons, k_el, j_el, er_nil, er_cons, k_er, j_er, i_r1, k_r1, i_r2, k_r2, j_r2, i_en, k_enl, k_ent, i_zp, k_zp, j_zp, l_zp_ll, l_zp_tt, l_zp_tl, l_zp_lt, i_it, k_it, j_it, s_nil, s_seq, k_sqn, k_sqr, k_sqb, k_nx, s_asn, s_aso, ea, k_ea_f, k_ea_t, k_as, s_ast, k_ag, s_par, k_pa, j_pa, l_pa, s_aug, k_au, j_aua, j_aus, s_app, k_ap, j_ap, s_sit, k_si, j_si, l_si, s_a2, k_a2, j_a2, l_a2, s_dp, k_dp, j_dp, s_exp, k_ex, s_iff, k_ift, k_iff, s_for, k_fo, k_foe, s_whl, s_ret, k_re, s_retN, s_brk, s_pass, getS_zero, getS_succ, isOwn, putS, dats, c_lt, c_le, c_gt, c_ge, c_is_none, c_is_int, c_is_str, c_is_tup, c_is_lst, c_is_bool, c_isnot_none, c_isnot_int, c_isnot_str, c_isnot_tup, c_isnot_lst, c_isnot_bool, c_in_sgn, c_eq, c_ne, eqOk_str, eqOk_sh, b_add, b_sub, b_mul, b_mod, b_div, b_addl, b_addt, b_rep, l_lst, l_tup, l_str, i_int, x_lst, x_tup, x_str, m_min, it_l, it_t, it_s, t_lst, q_lst, q_tup, bif_len, bif_int, bif_min, bif_max, bif_sum, bif_sorted, bif_all, bif_any, bif_tuple, bif_list, bif_divmod, mth_count, mth_index, mth_join, List.length_cons, List.length_nil, if_true, if_false, Bool.false_eq_true, Bool.or_false, Bool.false_or, Bool.or_self, List.set_cons_zero, List.set_cons_succ, frz, List.map_cons, List.map_nil, frzS, bG_tp, bG_nm, bGs_nil, bGs_cons, ob_some, gd_t, ob_t, n2, at20, at21, eq_self, and_self, and_true, true_and, wipeE, decide_true, decide_false, Bool.not_true, Bool.not_false, isi_none_int, isi_none_bool, isi_none_str, isi_none_tuple, isi_none_list, isi_bool_int, isi_bool_bool, isi_bool_str, isi_bool_tuple, isi_bool_list, isi_int_int, isi_int_bool, isi_int_str, isi_int_tuple, isi_int_list, isi_str_int, isi_str_bool, isi_str_str, isi_str_tuple, isi_str_list, isi_tuple_int, isi_tuple_bool, isi_tuple_str, isi_tuple_tuple, isi_tuple_list, isi_list_int, isi_list_bool, isi_list_str, isi_list_tuple, isi_list_list, Option.map_some, ir__law_people, show 0 + 1 + 1 + 1 + 1 + 1 + 1 ≤ line by decide, show 0 + 1 + 1 ≤ line by decide, show 0 + 1 ≤ line by decide, show 0 + 1 + 1 + (0 + 1) ≤ line by decide, show (2 < 0 + 1 + 1 + 1) by decide, e1, e2]
  rw [show (PyData.tuple (List.map PyData.str X)) = psD X from rfl, slice_ps (by omega)]
  simp only [e_var, k_val, k_own, e_glb, k_glb, k_cb, e_int, e_str, e_bl, e_non, e_bin, k_bin, j_bin, e_neg, k_neg, e_nt, k_nt, e_and, e_or, and1, and2, and_t, and_f, or1, or2, or_f, or_t, e_cmp, k_cmp, j_cmp, e_chn, k_chn, j_chn, l_chn, l_chf, e_ite, ite_t, ite_f, e_tup, k_tup, j_tup, e_lst, k_lst, j_lst, e_idx, k_idx, j_idx, e_slc, k_slc, j_slc, l_slc, o_nil, o_one, k_o, e_call, k_call, e_bif, k_bif, e_mth, k_mth, j_mth, e_isi, k_isi, e_lc, k_lc, j_lc, k_lce, k_lca_t, k_lca_f, k_lcb, ts_nil, ts_one, k_tb, e_dg, k_dg, e_dn, el_nil, el_cons, k_el, j_el, er_nil, er_cons, k_er, j_er, i_r1, k_r1, i_r2, k_r2, j_r2, i_en, k_enl, k_ent, i_zp, k_zp, j_zp, l_zp_ll, l_zp_tt, l_zp_tl, l_zp_lt, i_it, k_it, j_it, s_nil, s_seq, k_sqn, k_sqr, k_sqb, k_nx, s_asn, s_aso, ea, k_ea_f, k_ea_t, k_as, s_ast, k_ag, s_par, k_pa, j_pa, l_pa, s_aug, k_au, j_aua, j_aus, s_app, k_ap, j_ap, s_sit, k_si, j_si, l_si, s_a2, k_a2, j_a2, l_a2, s_dp, k_dp, j_dp, s_exp, k_ex, s_iff, k_ift, k_iff, s_for, k_fo, k_foe, s_whl, s_ret, k_re, s_retN, s_brk, s_pass, getS_zero, getS_succ, isOwn, putS, dats, c_lt, c_le, c_gt, c_ge, c_is_none, c_is_int, c_is_str, c_is_tup, c_is_lst, c_is_bool, c_isnot_none, c_isnot_int, c_isnot_str, c_isnot_tup, c_isnot_lst, c_isnot_bool, c_in_sgn, c_eq, c_ne, eqOk_str, eqOk_sh, b_add, b_sub, b_mul, b_mod, b_div, b_addl, b_addt, b_rep, l_lst, l_tup, l_str, i_int, x_lst, x_tup, x_str, m_min, it_l, it_t, it_s, t_lst, q_lst, q_tup, bif_len, bif_int, bif_min, bif_max, bif_sum, bif_sorted, bif_all, bif_any, bif_tuple, bif_list, bif_divmod, mth_count, mth_index, mth_join, List.length_cons, List.length_nil, if_true, if_false, Bool.false_eq_true, Bool.or_false, Bool.false_or, Bool.or_self, List.set_cons_zero, List.set_cons_succ, frz, List.map_cons, List.map_nil, frzS, bG_tp, bG_nm, bGs_nil, bGs_cons, ob_some, gd_t, ob_t, n2, at20, at21, eq_self, and_self, and_true, true_and, wipeE, decide_true, decide_false, Bool.not_true, Bool.not_false, isi_none_int, isi_none_bool, isi_none_str, isi_none_tuple, isi_none_list, isi_bool_int, isi_bool_bool, isi_bool_str, isi_bool_tuple, isi_bool_list, isi_int_int, isi_int_bool, isi_int_str, isi_int_tuple, isi_int_list, isi_str_int, isi_str_bool, isi_str_str, isi_str_tuple, isi_str_list, isi_tuple_int, isi_tuple_bool, isi_tuple_str, isi_tuple_tuple, isi_tuple_list, isi_list_int, isi_list_bool, isi_list_str, isi_list_tuple, isi_list_list, Option.map_some]
theorem s_deal {b most many top long : Nat} (hM : MOk b st) (hb : b ≤ 8000) (hm0 : 0 < most) (hm : most ≤ 6) (h1 : 0 < many) (h2 : many ≤ 20) (h3 : 0 < top) (h4 : top ≤ 1000000) (h5 : 0 < long) (h6 : long ≤ 60) :
    ∃ ps rs f st', runF tbl glb wf (n + 4) "_law_deal" [.dic 0, .dat (.int (most : Int)), .dat (.int (many : Int)), .dat (.int (top : Int)), .dat (.int (long : Int))] st = .ok (.dat (dealD ps (full rs f)), st') ∧ People ps ∧ ps.length ≤ most ∧ rs.length < many ∧ FigOk ps.length f ∧ (∀ r ∈ rs, FigOk ps.length r.2 ∧ 1 ≤ r.1 ∧ r.1 ≤ (top : Int)) ∧ MOk (b + 2 + many * (long + 2) + long + 2) st' := by
  obtain ⟨ps, st1, e1, hp, hpm, hM1⟩ := s_people (wf := wf) (n := n) (most := most) hM (by omega) hm0 hm
  obtain ⟨l1, l2⟩ := hp.len
  obtain ⟨rs, f, st2, e2, r1, r2, r3, hM2⟩ := s_runs (wf := wf) (n := n) (m := ps.length) (many := many) (top := top) (long := long) hM1 (by omega) (by omega) l2 h1 h2 h3 h4 h5 h6
  refine ⟨ps, rs, f, st2, ?_, hp, hpm, r1, r2, r3, hM2⟩
  refine run_def (fn := fn__law_deal) rfl rfl (by decide) ?_
  show evS _ _ _ ir__law_deal [_, _, _, _, _, none] _ = _
  simp only [e_var, k_val, k_own, e_glb, k_glb, k_cb, e_int, e_str, e_bl, e_non, e_bin, k_bin, j_bin, e_neg, k_neg, e_nt, k_nt, e_and, e_or, and1, and2, and_t, and_f, or1, or2, or_f, or_t, e_cmp, k_cmp, j_cmp, e_chn, k_chn, j_chn, l_chn, l_chf, e_ite, ite_t, ite_f, e_tup, k_tup, j_tup, e_lst, k_lst, j_lst, e_idx, k_idx, j_idx, e_slc, k_slc, j_slc, l_slc, o_nil, o_one, k_o, e_call, k_call, e_bif, k_bif, e_mth, k_mth, j_mth, e_isi, k_isi, e_lc, k_lc, j_lc, k_lce, k_lca_t, k_lca_f, k_lcb, ts_nil, ts_one, k_tb, e_dg, k_dg, e_dn, el_nil, el_cons, k_el, j_el, er_nil, er_cons, k_er, j_er, i_r1, k_r1, i_r2, k_r2, j_r2, i_en, k_enl, k_ent, i_zp, k_zp, j_zp, l_zp_ll, l_zp_tt, l_zp_tl, l_zp_lt, i_it, k_it, j_it, s_nil, s_seq, k_sqn, k_sqr, k_sqb, k_nx, s_asn, s_aso, ea, k_ea_f, k_ea_t, k_as, s_ast, k_ag, s_par, k_pa, j_pa, l_pa, s_aug, k_au, j_aua, j_aus, s_app, k_ap, j_ap, s_sit, k_si, j_si, l_si, s_a2, k_a2, j_a2, l_a2, s_dp, k_dp, j_dp, s_exp, k_ex, s_iff, k_ift, k_iff, s_for, k_fo, k_foe, s_whl, s_ret, k_re, s_retN, s_brk, s_pass, getS_zero, getS_succ, isOwn, putS, dats, c_lt, c_le, c_gt, c_ge, c_is_none, c_is_int, c_is_str, c_is_tup, c_is_lst, c_is_bool, c_isnot_none, c_isnot_int, c_isnot_str, c_isnot_tup, c_isnot_lst, c_isnot_bool, c_in_sgn, c_eq, c_ne, eqOk_str, eqOk_sh, b_add, b_sub, b_mul, b_mod, b_div, b_addl, b_addt, b_rep, l_lst, l_tup, l_str, i_int, x_lst, x_tup, x_str, m_min, it_l, it_t, it_s, t_lst, q_lst, q_tup, bif_len, bif_int, bif_min, bif_max, bif_sum, bif_sorted, bif_all, bif_any, bif_tuple, bif_list, bif_divmod, mth_count, mth_index, mth_join, List.length_cons, List.length_nil, if_true, if_false, Bool.false_eq_true, Bool.or_false, Bool.false_or, Bool.or_self, List.set_cons_zero, List.set_cons_succ, frz, List.map_cons, List.map_nil, frzS, bG_tp, bG_nm, bGs_nil, bGs_cons, ob_some, gd_t, ob_t, n2, at20, at21, eq_self, and_self, and_true, true_and, wipeE, decide_true, decide_false, Bool.not_true, Bool.not_false, isi_none_int, isi_none_bool, isi_none_str, isi_none_tuple, isi_none_list, isi_bool_int, isi_bool_bool, isi_bool_str, isi_bool_tuple, isi_bool_list, isi_int_int, isi_int_bool, isi_int_str, isi_int_tuple, isi_int_list, isi_str_int, isi_str_bool, isi_str_str, isi_str_tuple, isi_str_list, isi_tuple_int, isi_tuple_bool, isi_tuple_str, isi_tuple_tuple, isi_tuple_list, isi_list_int, isi_list_bool, isi_list_str, isi_list_tuple, isi_list_list, Option.map_some, ir__law_deal, e1, l_ps, e2, show (5 < 0 + 1 + 1 + 1 + 1 + 1 + 1) by decide, show 0 + 1 + 1 ≤ line by decide, dealD]
theorem full_map (qs : Rs) (f : Fig) : (full qs f).map rnD = (qs.map fun r => (some r.1, r.2)).map rnD ++ [rnD (none, f)] := by
  unfold full
  rw [List.map_append]
  rfl
theorem pw6 : binD .Pow (.int 10) (.int 6) = some (.int 1000000) := nr rfl
theorem pw11 : binD .Pow (.int 10) (.int 11) = some (.int 100000000000) := nr rfl
theorem pw12 : binD .Pow (.int 10) (.int 12) = some (.int 1000000000000) := nr rfl
end
end Rm

set_option Elab.async false
set_option linter.all false
set_option maxRecDepth 100000
set_option maxHeartbeats 1000000
/-! Rv, mathematics: the law. -/
namespace Rm
open Rv
open PySem
theorem pw18 : binD .Pow (.int 10) (.int 18) = some (.int 1000000000000000000) := nr rfl
theorem pw20 : binD .Pow (.int 10) (.int 20) = some (.int 100000000000000000000) := nr rfl
theorem pw29 : binD .Pow (.int 10) (.int 29) = some (.int 100000000000000000000000000000) := nr rfl
theorem pw30 : binD .Pow (.int 10) (.int 30) = some (.int 1000000000000000000000000000000) := nr rfl
section
variable {wf n : Nat} {st : Sto}
theorem filt_ints (ns : List Int) (k : Int) : ((ns.map PyData.int).filterMap fun z => match z with | .int i => if k ≤ i then some (.int i) else none | _ => none) = (ns.filter fun i => decide (k ≤ i)).map PyData.int := by
  induction ns with
  | nil => rfl
  | cons x r ih =>
    rw [List.map_cons, List.filterMap_cons, List.filter_cons]
    by_cases h : k ≤ x
    · simp only [h, if_true, decide_true, ih, List.map_cons]
    · simp only [h, if_false, decide_false, ih, Bool.false_eq_true]
theorem dn_m (cs : List Int) (l : Int) : dnK ["cells", "left", "spot"] 0 (.ok ([.dat (.list (cs.map .int)), .dat (.int l), .dat (.int 0)], [[]])) = .ok (.dic 0, mS cs l 0) := nr rfl
theorem app_len (ns : List Int) (k : Int) : ns.map PyData.int ++ [PyData.int k] = (ns ++ [k]).map PyData.int := by rw [List.map_append]; rfl
theorem s_begun (ns : List Int) (hn : ns.length ≤ 63) : ∃ l, runF tbl glb wf (n + 1) "_law_begun" [.dat (.list (ns.map .int))] [] = .ok (.dic 0, mS (ns ++ [(ns.length : Int)]) l 0) := by
  have hfl := List.length_filter_le (fun i => decide ((1000000000000000000 : Int) ≤ i)) ns
  cases hg : ns.filter fun i => decide ((1000000000000000000 : Int) ≤ i) with
  | nil =>
    refine ⟨0, ?_⟩
    refine run_def (fn := fn__law_begun) rfl rfl (by decide) ?_
    show evS _ _ _ ir__law_begun [_, none, none] _ = _
    simp only [e_var, k_val, k_own, e_glb, k_glb, k_cb, e_int, e_str, e_bl, e_non, e_bin, k_bin, j_bin, e_neg, k_neg, e_nt, k_nt, e_and, e_or, and1, and2, and_t, and_f, or1, or2, or_f, or_t, e_cmp, k_cmp, j_cmp, e_chn, k_chn, j_chn, l_chn, l_chf, e_ite, ite_t, ite_f, e_tup, k_tup, j_tup, e_lst, k_lst, j_lst, e_idx, k_idx, j_idx, e_slc, k_slc, j_slc, l_slc, o_nil, o_one, k_o, e_call, k_call, e_bif, k_bif, e_mth, k_mth, j_mth, e_isi, k_isi, e_lc, k_lc, j_lc, k_lce, k_lca_t, k_lca_f, k_lcb, ts_nil, ts_one, k_tb, e_dg, k_dg, e_dn, el_nil, el_cons, k_el, j_el, er_nil, er_cons, k_er, j_er, i_r1, k_r1, i_r2, k_r2, j_r2, i_en, k_enl, k_ent, i_zp, k_zp, j_zp, l_zp_ll, l_zp_tt, l_zp_tl, l_zp_lt, i_it, k_it, j_it, s_nil, s_seq, k_sqn, k_sqr, k_sqb, k_nx, s_asn, s_aso, ea, k_ea_f, k_ea_t, k_as, s_ast, k_ag, s_par, k_pa, j_pa, l_pa, s_aug, k_au, j_aua, j_aus, s_app, k_ap, j_ap, s_sit, k_si, j_si, l_si, s_a2, k_a2, j_a2, l_a2, s_dp, k_dp, j_dp, s_exp, k_ex, s_iff, k_ift, k_iff, s_for, k_fo, k_foe, s_whl, s_ret, k_re, s_retN, s_brk, s_pass, getS_zero, getS_succ, isOwn, putS, dats, c_lt, c_le, c_gt, c_ge, c_is_none, c_is_int, c_is_str, c_is_tup, c_is_lst, c_is_bool, c_isnot_none, c_isnot_int, c_isnot_str, c_isnot_tup, c_isnot_lst, c_isnot_bool, c_in_sgn, c_eq, c_ne, eqOk_str, eqOk_sh, b_add, b_sub, b_mul, b_mod, b_div, b_addl, b_addt, b_rep, l_lst, l_tup, l_str, i_int, x_lst, x_tup, x_str, m_min, it_l, it_t, it_s, t_lst, q_lst, q_tup, bif_len, bif_int, bif_min, bif_max, bif_sum, bif_sorted, bif_all, bif_any, bif_tuple, bif_list, bif_divmod, mth_count, mth_index, mth_join, List.length_cons, List.length_nil, if_true, if_false, Bool.false_eq_true, Bool.or_false, Bool.false_or, Bool.or_self, List.set_cons_zero, List.set_cons_succ, frz, List.map_cons, List.map_nil, frzS, bG_tp, bG_nm, bGs_nil, bGs_cons, ob_some, gd_t, ob_t, n2, at20, at21, eq_self, and_self, and_true, true_and, wipeE, decide_true, decide_false, Bool.not_true, Bool.not_false, isi_none_int, isi_none_bool, isi_none_str, isi_none_tuple, isi_none_list, isi_bool_int, isi_bool_bool, isi_bool_str, isi_bool_tuple, isi_bool_list, isi_int_int, isi_int_bool, isi_int_str, isi_int_tuple, isi_int_list, isi_str_int, isi_str_bool, isi_str_str, isi_str_tuple, isi_str_list, isi_tuple_int, isi_tuple_bool, isi_tuple_str, isi_tuple_tuple, isi_tuple_list, isi_list_int, isi_list_bool, isi_list_str, isi_list_tuple, isi_list_list, Option.map_some, ir__law_begun]
    rw [lcT_eq (fun z => match z with | .int i => if (1000000000000000000 : Int) ≤ i then some (.int i) else none | _ => none)]
    rotate_left
    · intro z hz
      obtain ⟨y, _, rfl⟩ := List.mem_map.mp hz
      by_cases h : (1000000000000000000 : Int) ≤ y
      · simp only [e_var, k_val, k_own, e_glb, k_glb, k_cb, e_int, e_str, e_bl, e_non, e_bin, k_bin, j_bin, e_neg, k_neg, e_nt, k_nt, e_and, e_or, and1, and2, and_t, and_f, or1, or2, or_f, or_t, e_cmp, k_cmp, j_cmp, e_chn, k_chn, j_chn, l_chn, l_chf, e_ite, ite_t, ite_f, e_tup, k_tup, j_tup, e_lst, k_lst, j_lst, e_idx, k_idx, j_idx, e_slc, k_slc, j_slc, l_slc, o_nil, o_one, k_o, e_call, k_call, e_bif, k_bif, e_mth, k_mth, j_mth, e_isi, k_isi, e_lc, k_lc, j_lc, k_lce, k_lca_t, k_lca_f, k_lcb, ts_nil, ts_one, k_tb, e_dg, k_dg, e_dn, el_nil, el_cons, k_el, j_el, er_nil, er_cons, k_er, j_er, i_r1, k_r1, i_r2, k_r2, j_r2, i_en, k_enl, k_ent, i_zp, k_zp, j_zp, l_zp_ll, l_zp_tt, l_zp_tl, l_zp_lt, i_it, k_it, j_it, s_nil, s_seq, k_sqn, k_sqr, k_sqb, k_nx, s_asn, s_aso, ea, k_ea_f, k_ea_t, k_as, s_ast, k_ag, s_par, k_pa, j_pa, l_pa, s_aug, k_au, j_aua, j_aus, s_app, k_ap, j_ap, s_sit, k_si, j_si, l_si, s_a2, k_a2, j_a2, l_a2, s_dp, k_dp, j_dp, s_exp, k_ex, s_iff, k_ift, k_iff, s_for, k_fo, k_foe, s_whl, s_ret, k_re, s_retN, s_brk, s_pass, getS_zero, getS_succ, isOwn, putS, dats, c_lt, c_le, c_gt, c_ge, c_is_none, c_is_int, c_is_str, c_is_tup, c_is_lst, c_is_bool, c_isnot_none, c_isnot_int, c_isnot_str, c_isnot_tup, c_isnot_lst, c_isnot_bool, c_in_sgn, c_eq, c_ne, eqOk_str, eqOk_sh, b_add, b_sub, b_mul, b_mod, b_div, b_addl, b_addt, b_rep, l_lst, l_tup, l_str, i_int, x_lst, x_tup, x_str, m_min, it_l, it_t, it_s, t_lst, q_lst, q_tup, bif_len, bif_int, bif_min, bif_max, bif_sum, bif_sorted, bif_all, bif_any, bif_tuple, bif_list, bif_divmod, mth_count, mth_index, mth_join, List.length_cons, List.length_nil, if_true, if_false, Bool.false_eq_true, Bool.or_false, Bool.false_or, Bool.or_self, List.set_cons_zero, List.set_cons_succ, frz, List.map_cons, List.map_nil, frzS, bG_tp, bG_nm, bGs_nil, bGs_cons, ob_some, gd_t, ob_t, n2, at20, at21, eq_self, and_self, and_true, true_and, wipeE, decide_true, decide_false, Bool.not_true, Bool.not_false, isi_none_int, isi_none_bool, isi_none_str, isi_none_tuple, isi_none_list, isi_bool_int, isi_bool_bool, isi_bool_str, isi_bool_tuple, isi_bool_list, isi_int_int, isi_int_bool, isi_int_str, isi_int_tuple, isi_int_list, isi_str_int, isi_str_bool, isi_str_str, isi_str_tuple, isi_str_list, isi_tuple_int, isi_tuple_bool, isi_tuple_str, isi_tuple_tuple, isi_tuple_list, isi_list_int, isi_list_bool, isi_list_str, isi_list_tuple, isi_list_list, Option.map_some, show (2 < 0 + 1 + 1 + 1) by decide, pw18, h]
      · simp only [e_var, k_val, k_own, e_glb, k_glb, k_cb, e_int, e_str, e_bl, e_non, e_bin, k_bin, j_bin, e_neg, k_neg, e_nt, k_nt, e_and, e_or, and1, and2, and_t, and_f, or1, or2, or_f, or_t, e_cmp, k_cmp, j_cmp, e_chn, k_chn, j_chn, l_chn, l_chf, e_ite, ite_t, ite_f, e_tup, k_tup, j_tup, e_lst, k_lst, j_lst, e_idx, k_idx, j_idx, e_slc, k_slc, j_slc, l_slc, o_nil, o_one, k_o, e_call, k_call, e_bif, k_bif, e_mth, k_mth, j_mth, e_isi, k_isi, e_lc, k_lc, j_lc, k_lce, k_lca_t, k_lca_f, k_lcb, ts_nil, ts_one, k_tb, e_dg, k_dg, e_dn, el_nil, el_cons, k_el, j_el, er_nil, er_cons, k_er, j_er, i_r1, k_r1, i_r2, k_r2, j_r2, i_en, k_enl, k_ent, i_zp, k_zp, j_zp, l_zp_ll, l_zp_tt, l_zp_tl, l_zp_lt, i_it, k_it, j_it, s_nil, s_seq, k_sqn, k_sqr, k_sqb, k_nx, s_asn, s_aso, ea, k_ea_f, k_ea_t, k_as, s_ast, k_ag, s_par, k_pa, j_pa, l_pa, s_aug, k_au, j_aua, j_aus, s_app, k_ap, j_ap, s_sit, k_si, j_si, l_si, s_a2, k_a2, j_a2, l_a2, s_dp, k_dp, j_dp, s_exp, k_ex, s_iff, k_ift, k_iff, s_for, k_fo, k_foe, s_whl, s_ret, k_re, s_retN, s_brk, s_pass, getS_zero, getS_succ, isOwn, putS, dats, c_lt, c_le, c_gt, c_ge, c_is_none, c_is_int, c_is_str, c_is_tup, c_is_lst, c_is_bool, c_isnot_none, c_isnot_int, c_isnot_str, c_isnot_tup, c_isnot_lst, c_isnot_bool, c_in_sgn, c_eq, c_ne, eqOk_str, eqOk_sh, b_add, b_sub, b_mul, b_mod, b_div, b_addl, b_addt, b_rep, l_lst, l_tup, l_str, i_int, x_lst, x_tup, x_str, m_min, it_l, it_t, it_s, t_lst, q_lst, q_tup, bif_len, bif_int, bif_min, bif_max, bif_sum, bif_sorted, bif_all, bif_any, bif_tuple, bif_list, bif_divmod, mth_count, mth_index, mth_join, List.length_cons, List.length_nil, if_true, if_false, Bool.false_eq_true, Bool.or_false, Bool.false_or, Bool.or_self, List.set_cons_zero, List.set_cons_succ, frz, List.map_cons, List.map_nil, frzS, bG_tp, bG_nm, bGs_nil, bGs_cons, ob_some, gd_t, ob_t, n2, at20, at21, eq_self, and_self, and_true, true_and, wipeE, decide_true, decide_false, Bool.not_true, Bool.not_false, isi_none_int, isi_none_bool, isi_none_str, isi_none_tuple, isi_none_list, isi_bool_int, isi_bool_bool, isi_bool_str, isi_bool_tuple, isi_bool_list, isi_int_int, isi_int_bool, isi_int_str, isi_int_tuple, isi_int_list, isi_str_int, isi_str_bool, isi_str_str, isi_str_tuple, isi_str_list, isi_tuple_int, isi_tuple_bool, isi_tuple_str, isi_tuple_tuple, isi_tuple_list, isi_list_int, isi_list_bool, isi_list_str, isi_list_tuple, isi_list_list, Option.map_some, show (2 < 0 + 1 + 1 + 1) by decide, pw18, h]
    rw [filt_ints, hg]
    simp only [e_var, k_val, k_own, e_glb, k_glb, k_cb, e_int, e_str, e_bl, e_non, e_bin, k_bin, j_bin, e_neg, k_neg, e_nt, k_nt, e_and, e_or, and1, and2, and_t, and_f, or1, or2, or_f, or_t, e_cmp, k_cmp, j_cmp, e_chn, k_chn, j_chn, l_chn, l_chf, e_ite, ite_t, ite_f, e_tup, k_tup, j_tup, e_lst, k_lst, j_lst, e_idx, k_idx, j_idx, e_slc, k_slc, j_slc, l_slc, o_nil, o_one, k_o, e_call, k_call, e_bif, k_bif, e_mth, k_mth, j_mth, e_isi, k_isi, e_lc, k_lc, j_lc, k_lce, k_lca_t, k_lca_f, k_lcb, ts_nil, ts_one, k_tb, e_dg, k_dg, e_dn, el_nil, el_cons, k_el, j_el, er_nil, er_cons, k_er, j_er, i_r1, k_r1, i_r2, k_r2, j_r2, i_en, k_enl, k_ent, i_zp, k_zp, j_zp, l_zp_ll, l_zp_tt, l_zp_tl, l_zp_lt, i_it, k_it, j_it, s_nil, s_seq, k_sqn, k_sqr, k_sqb, k_nx, s_asn, s_aso, ea, k_ea_f, k_ea_t, k_as, s_ast, k_ag, s_par, k_pa, j_pa, l_pa, s_aug, k_au, j_aua, j_aus, s_app, k_ap, j_ap, s_sit, k_si, j_si, l_si, s_a2, k_a2, j_a2, l_a2, s_dp, k_dp, j_dp, s_exp, k_ex, s_iff, k_ift, k_iff, s_for, k_fo, k_foe, s_whl, s_ret, k_re, s_retN, s_brk, s_pass, getS_zero, getS_succ, isOwn, putS, dats, c_lt, c_le, c_gt, c_ge, c_is_none, c_is_int, c_is_str, c_is_tup, c_is_lst, c_is_bool, c_isnot_none, c_isnot_int, c_isnot_str, c_isnot_tup, c_isnot_lst, c_isnot_bool, c_in_sgn, c_eq, c_ne, eqOk_str, eqOk_sh, b_add, b_sub, b_mul, b_mod, b_div, b_addl, b_addt, b_rep, l_lst, l_tup, l_str, i_int, x_lst, x_tup, x_str, m_min, it_l, it_t, it_s, t_lst, q_lst, q_tup, bif_len, bif_int, bif_min, bif_max, bif_sum, bif_sorted, bif_all, bif_any, bif_tuple, bif_list, bif_divmod, mth_count, mth_index, mth_join, List.length_cons, List.length_nil, if_true, if_false, Bool.false_eq_true, Bool.or_false, Bool.false_or, Bool.or_self, List.set_cons_zero, List.set_cons_succ, frz, List.map_cons, List.map_nil, frzS, bG_tp, bG_nm, bGs_nil, bGs_cons, ob_some, gd_t, ob_t, n2, at20, at21, eq_self, and_self, and_true, true_and, wipeE, decide_true, decide_false, Bool.not_true, Bool.not_false, isi_none_int, isi_none_bool, isi_none_str, isi_none_tuple, isi_none_list, isi_bool_int, isi_bool_bool, isi_bool_str, isi_bool_tuple, isi_bool_list, isi_int_int, isi_int_bool, isi_int_str, isi_int_tuple, isi_int_list, isi_str_int, isi_str_bool, isi_str_str, isi_str_tuple, isi_str_list, isi_tuple_int, isi_tuple_bool, isi_tuple_str, isi_tuple_tuple, isi_tuple_list, isi_list_int, isi_list_bool, isi_list_str, isi_list_tuple, isi_list_list, Option.map_some, show 0 ≤ line by decide, show (1 < 0 + 1 + 1 + 1) by decide, List.nil_append, List.length_map, show 0 + 1 ≤ line by decide, le_line (n := ns.length + (0 + 1)) (by omega), show SeqAt.shaped (.list []) = true by decide, Bool.and_self, show PyData.eqv (.list []) (.list []) = true by decide, app_len, dn_m]
  | cons g r =>
    refine ⟨g, ?_⟩
    have hs : SeqAt.shaped (.list (.int g :: r.map .int)) = true := shaped_lst (g :: r)
    rw [hg, List.length_cons] at hfl
    refine run_def (fn := fn__law_begun) rfl rfl (by decide) ?_
    show evS _ _ _ ir__law_begun [_, none, none] _ = _
    simp only [e_var, k_val, k_own, e_glb, k_glb, k_cb, e_int, e_str, e_bl, e_non, e_bin, k_bin, j_bin, e_neg, k_neg, e_nt, k_nt, e_and, e_or, and1, and2, and_t, and_f, or1, or2, or_f, or_t, e_cmp, k_cmp, j_cmp, e_chn, k_chn, j_chn, l_chn, l_chf, e_ite, ite_t, ite_f, e_tup, k_tup, j_tup, e_lst, k_lst, j_lst, e_idx, k_idx, j_idx, e_slc, k_slc, j_slc, l_slc, o_nil, o_one, k_o, e_call, k_call, e_bif, k_bif, e_mth, k_mth, j_mth, e_isi, k_isi, e_lc, k_lc, j_lc, k_lce, k_lca_t, k_lca_f, k_lcb, ts_nil, ts_one, k_tb, e_dg, k_dg, e_dn, el_nil, el_cons, k_el, j_el, er_nil, er_cons, k_er, j_er, i_r1, k_r1, i_r2, k_r2, j_r2, i_en, k_enl, k_ent, i_zp, k_zp, j_zp, l_zp_ll, l_zp_tt, l_zp_tl, l_zp_lt, i_it, k_it, j_it, s_nil, s_seq, k_sqn, k_sqr, k_sqb, k_nx, s_asn, s_aso, ea, k_ea_f, k_ea_t, k_as, s_ast, k_ag, s_par, k_pa, j_pa, l_pa, s_aug, k_au, j_aua, j_aus, s_app, k_ap, j_ap, s_sit, k_si, j_si, l_si, s_a2, k_a2, j_a2, l_a2, s_dp, k_dp, j_dp, s_exp, k_ex, s_iff, k_ift, k_iff, s_for, k_fo, k_foe, s_whl, s_ret, k_re, s_retN, s_brk, s_pass, getS_zero, getS_succ, isOwn, putS, dats, c_lt, c_le, c_gt, c_ge, c_is_none, c_is_int, c_is_str, c_is_tup, c_is_lst, c_is_bool, c_isnot_none, c_isnot_int, c_isnot_str, c_isnot_tup, c_isnot_lst, c_isnot_bool, c_in_sgn, c_eq, c_ne, eqOk_str, eqOk_sh, b_add, b_sub, b_mul, b_mod, b_div, b_addl, b_addt, b_rep, l_lst, l_tup, l_str, i_int, x_lst, x_tup, x_str, m_min, it_l, it_t, it_s, t_lst, q_lst, q_tup, bif_len, bif_int, bif_min, bif_max, bif_sum, bif_sorted, bif_all, bif_any, bif_tuple, bif_list, bif_divmod, mth_count, mth_index, mth_join, List.length_cons, List.length_nil, if_true, if_false, Bool.false_eq_true, Bool.or_false, Bool.false_or, Bool.or_self, List.set_cons_zero, List.set_cons_succ, frz, List.map_cons, List.map_nil, frzS, bG_tp, bG_nm, bGs_nil, bGs_cons, ob_some, gd_t, ob_t, n2, at20, at21, eq_self, and_self, and_true, true_and, wipeE, decide_true, decide_false, Bool.not_true, Bool.not_false, isi_none_int, isi_none_bool, isi_none_str, isi_none_tuple, isi_none_list, isi_bool_int, isi_bool_bool, isi_bool_str, isi_bool_tuple, isi_bool_list, isi_int_int, isi_int_bool, isi_int_str, isi_int_tuple, isi_int_list, isi_str_int, isi_str_bool, isi_str_str, isi_str_tuple, isi_str_list, isi_tuple_int, isi_tuple_bool, isi_tuple_str, isi_tuple_tuple, isi_tuple_list, isi_list_int, isi_list_bool, isi_list_str, isi_list_tuple, isi_list_list, Option.map_some, ir__law_begun]
    rw [lcT_eq (fun z => match z with | .int i => if (1000000000000000000 : Int) ≤ i then some (.int i) else none | _ => none)]
    rotate_left
    · intro z hz
      obtain ⟨y, _, rfl⟩ := List.mem_map.mp hz
      by_cases h : (1000000000000000000 : Int) ≤ y
      · simp only [e_var, k_val, k_own, e_glb, k_glb, k_cb, e_int, e_str, e_bl, e_non, e_bin, k_bin, j_bin, e_neg, k_neg, e_nt, k_nt, e_and, e_or, and1, and2, and_t, and_f, or1, or2, or_f, or_t, e_cmp, k_cmp, j_cmp, e_chn, k_chn, j_chn, l_chn, l_chf, e_ite, ite_t, ite_f, e_tup, k_tup, j_tup, e_lst, k_lst, j_lst, e_idx, k_idx, j_idx, e_slc, k_slc, j_slc, l_slc, o_nil, o_one, k_o, e_call, k_call, e_bif, k_bif, e_mth, k_mth, j_mth, e_isi, k_isi, e_lc, k_lc, j_lc, k_lce, k_lca_t, k_lca_f, k_lcb, ts_nil, ts_one, k_tb, e_dg, k_dg, e_dn, el_nil, el_cons, k_el, j_el, er_nil, er_cons, k_er, j_er, i_r1, k_r1, i_r2, k_r2, j_r2, i_en, k_enl, k_ent, i_zp, k_zp, j_zp, l_zp_ll, l_zp_tt, l_zp_tl, l_zp_lt, i_it, k_it, j_it, s_nil, s_seq, k_sqn, k_sqr, k_sqb, k_nx, s_asn, s_aso, ea, k_ea_f, k_ea_t, k_as, s_ast, k_ag, s_par, k_pa, j_pa, l_pa, s_aug, k_au, j_aua, j_aus, s_app, k_ap, j_ap, s_sit, k_si, j_si, l_si, s_a2, k_a2, j_a2, l_a2, s_dp, k_dp, j_dp, s_exp, k_ex, s_iff, k_ift, k_iff, s_for, k_fo, k_foe, s_whl, s_ret, k_re, s_retN, s_brk, s_pass, getS_zero, getS_succ, isOwn, putS, dats, c_lt, c_le, c_gt, c_ge, c_is_none, c_is_int, c_is_str, c_is_tup, c_is_lst, c_is_bool, c_isnot_none, c_isnot_int, c_isnot_str, c_isnot_tup, c_isnot_lst, c_isnot_bool, c_in_sgn, c_eq, c_ne, eqOk_str, eqOk_sh, b_add, b_sub, b_mul, b_mod, b_div, b_addl, b_addt, b_rep, l_lst, l_tup, l_str, i_int, x_lst, x_tup, x_str, m_min, it_l, it_t, it_s, t_lst, q_lst, q_tup, bif_len, bif_int, bif_min, bif_max, bif_sum, bif_sorted, bif_all, bif_any, bif_tuple, bif_list, bif_divmod, mth_count, mth_index, mth_join, List.length_cons, List.length_nil, if_true, if_false, Bool.false_eq_true, Bool.or_false, Bool.false_or, Bool.or_self, List.set_cons_zero, List.set_cons_succ, frz, List.map_cons, List.map_nil, frzS, bG_tp, bG_nm, bGs_nil, bGs_cons, ob_some, gd_t, ob_t, n2, at20, at21, eq_self, and_self, and_true, true_and, wipeE, decide_true, decide_false, Bool.not_true, Bool.not_false, isi_none_int, isi_none_bool, isi_none_str, isi_none_tuple, isi_none_list, isi_bool_int, isi_bool_bool, isi_bool_str, isi_bool_tuple, isi_bool_list, isi_int_int, isi_int_bool, isi_int_str, isi_int_tuple, isi_int_list, isi_str_int, isi_str_bool, isi_str_str, isi_str_tuple, isi_str_list, isi_tuple_int, isi_tuple_bool, isi_tuple_str, isi_tuple_tuple, isi_tuple_list, isi_list_int, isi_list_bool, isi_list_str, isi_list_tuple, isi_list_list, Option.map_some, show (2 < 0 + 1 + 1 + 1) by decide, pw18, h]
      · simp only [e_var, k_val, k_own, e_glb, k_glb, k_cb, e_int, e_str, e_bl, e_non, e_bin, k_bin, j_bin, e_neg, k_neg, e_nt, k_nt, e_and, e_or, and1, and2, and_t, and_f, or1, or2, or_f, or_t, e_cmp, k_cmp, j_cmp, e_chn, k_chn, j_chn, l_chn, l_chf, e_ite, ite_t, ite_f, e_tup, k_tup, j_tup, e_lst, k_lst, j_lst, e_idx, k_idx, j_idx, e_slc, k_slc, j_slc, l_slc, o_nil, o_one, k_o, e_call, k_call, e_bif, k_bif, e_mth, k_mth, j_mth, e_isi, k_isi, e_lc, k_lc, j_lc, k_lce, k_lca_t, k_lca_f, k_lcb, ts_nil, ts_one, k_tb, e_dg, k_dg, e_dn, el_nil, el_cons, k_el, j_el, er_nil, er_cons, k_er, j_er, i_r1, k_r1, i_r2, k_r2, j_r2, i_en, k_enl, k_ent, i_zp, k_zp, j_zp, l_zp_ll, l_zp_tt, l_zp_tl, l_zp_lt, i_it, k_it, j_it, s_nil, s_seq, k_sqn, k_sqr, k_sqb, k_nx, s_asn, s_aso, ea, k_ea_f, k_ea_t, k_as, s_ast, k_ag, s_par, k_pa, j_pa, l_pa, s_aug, k_au, j_aua, j_aus, s_app, k_ap, j_ap, s_sit, k_si, j_si, l_si, s_a2, k_a2, j_a2, l_a2, s_dp, k_dp, j_dp, s_exp, k_ex, s_iff, k_ift, k_iff, s_for, k_fo, k_foe, s_whl, s_ret, k_re, s_retN, s_brk, s_pass, getS_zero, getS_succ, isOwn, putS, dats, c_lt, c_le, c_gt, c_ge, c_is_none, c_is_int, c_is_str, c_is_tup, c_is_lst, c_is_bool, c_isnot_none, c_isnot_int, c_isnot_str, c_isnot_tup, c_isnot_lst, c_isnot_bool, c_in_sgn, c_eq, c_ne, eqOk_str, eqOk_sh, b_add, b_sub, b_mul, b_mod, b_div, b_addl, b_addt, b_rep, l_lst, l_tup, l_str, i_int, x_lst, x_tup, x_str, m_min, it_l, it_t, it_s, t_lst, q_lst, q_tup, bif_len, bif_int, bif_min, bif_max, bif_sum, bif_sorted, bif_all, bif_any, bif_tuple, bif_list, bif_divmod, mth_count, mth_index, mth_join, List.length_cons, List.length_nil, if_true, if_false, Bool.false_eq_true, Bool.or_false, Bool.false_or, Bool.or_self, List.set_cons_zero, List.set_cons_succ, frz, List.map_cons, List.map_nil, frzS, bG_tp, bG_nm, bGs_nil, bGs_cons, ob_some, gd_t, ob_t, n2, at20, at21, eq_self, and_self, and_true, true_and, wipeE, decide_true, decide_false, Bool.not_true, Bool.not_false, isi_none_int, isi_none_bool, isi_none_str, isi_none_tuple, isi_none_list, isi_bool_int, isi_bool_bool, isi_bool_str, isi_bool_tuple, isi_bool_list, isi_int_int, isi_int_bool, isi_int_str, isi_int_tuple, isi_int_list, isi_str_int, isi_str_bool, isi_str_str, isi_str_tuple, isi_str_list, isi_tuple_int, isi_tuple_bool, isi_tuple_str, isi_tuple_tuple, isi_tuple_list, isi_list_int, isi_list_bool, isi_list_str, isi_list_tuple, isi_list_list, Option.map_some, show (2 < 0 + 1 + 1 + 1) by decide, pw18, h]
    rw [filt_ints, hg]
    simp only [e_var, k_val, k_own, e_glb, k_glb, k_cb, e_int, e_str, e_bl, e_non, e_bin, k_bin, j_bin, e_neg, k_neg, e_nt, k_nt, e_and, e_or, and1, and2, and_t, and_f, or1, or2, or_f, or_t, e_cmp, k_cmp, j_cmp, e_chn, k_chn, j_chn, l_chn, l_chf, e_ite, ite_t, ite_f, e_tup, k_tup, j_tup, e_lst, k_lst, j_lst, e_idx, k_idx, j_idx, e_slc, k_slc, j_slc, l_slc, o_nil, o_one, k_o, e_call, k_call, e_bif, k_bif, e_mth, k_mth, j_mth, e_isi, k_isi, e_lc, k_lc, j_lc, k_lce, k_lca_t, k_lca_f, k_lcb, ts_nil, ts_one, k_tb, e_dg, k_dg, e_dn, el_nil, el_cons, k_el, j_el, er_nil, er_cons, k_er, j_er, i_r1, k_r1, i_r2, k_r2, j_r2, i_en, k_enl, k_ent, i_zp, k_zp, j_zp, l_zp_ll, l_zp_tt, l_zp_tl, l_zp_lt, i_it, k_it, j_it, s_nil, s_seq, k_sqn, k_sqr, k_sqb, k_nx, s_asn, s_aso, ea, k_ea_f, k_ea_t, k_as, s_ast, k_ag, s_par, k_pa, j_pa, l_pa, s_aug, k_au, j_aua, j_aus, s_app, k_ap, j_ap, s_sit, k_si, j_si, l_si, s_a2, k_a2, j_a2, l_a2, s_dp, k_dp, j_dp, s_exp, k_ex, s_iff, k_ift, k_iff, s_for, k_fo, k_foe, s_whl, s_ret, k_re, s_retN, s_brk, s_pass, getS_zero, getS_succ, isOwn, putS, dats, c_lt, c_le, c_gt, c_ge, c_is_none, c_is_int, c_is_str, c_is_tup, c_is_lst, c_is_bool, c_isnot_none, c_isnot_int, c_isnot_str, c_isnot_tup, c_isnot_lst, c_isnot_bool, c_in_sgn, c_eq, c_ne, eqOk_str, eqOk_sh, b_add, b_sub, b_mul, b_mod, b_div, b_addl, b_addt, b_rep, l_lst, l_tup, l_str, i_int, x_lst, x_tup, x_str, m_min, it_l, it_t, it_s, t_lst, q_lst, q_tup, bif_len, bif_int, bif_min, bif_max, bif_sum, bif_sorted, bif_all, bif_any, bif_tuple, bif_list, bif_divmod, mth_count, mth_index, mth_join, List.length_cons, List.length_nil, if_true, if_false, Bool.false_eq_true, Bool.or_false, Bool.false_or, Bool.or_self, List.set_cons_zero, List.set_cons_succ, frz, List.map_cons, List.map_nil, frzS, bG_tp, bG_nm, bGs_nil, bGs_cons, ob_some, gd_t, ob_t, n2, at20, at21, eq_self, and_self, and_true, true_and, wipeE, decide_true, decide_false, Bool.not_true, Bool.not_false, isi_none_int, isi_none_bool, isi_none_str, isi_none_tuple, isi_none_list, isi_bool_int, isi_bool_bool, isi_bool_str, isi_bool_tuple, isi_bool_list, isi_int_int, isi_int_bool, isi_int_str, isi_int_tuple, isi_int_list, isi_str_int, isi_str_bool, isi_str_str, isi_str_tuple, isi_str_list, isi_tuple_int, isi_tuple_bool, isi_tuple_str, isi_tuple_tuple, isi_tuple_list, isi_list_int, isi_list_bool, isi_list_str, isi_list_tuple, isi_list_list, Option.map_some, show 0 ≤ line by decide, show (1 < 0 + 1 + 1 + 1) by decide, List.nil_append, List.length_map, le_line (n := r.length + 1) (by omega), show 0 + 1 ≤ line by decide, le_line (n := ns.length + (0 + 1)) (by omega), show SeqAt.shaped (.list []) = true by decide, hs, Bool.and_self, show PyData.eqv (.list (.int g :: r.map .int)) (.list []) = false by simp [PyData.eqv, PyData.eqvAll], show L2.atI (.int g :: r.map PyData.int) 0 = some (.int g) from atI_of (j := 0) rfl, app_len, dn_m]
end
end Rm

set_option Elab.async false
set_option linter.all false
set_option maxRecDepth 100000
set_option maxHeartbeats 1000000
/-! Rv, mathematics: a law's own row, coin by coin. -/
namespace Rm
open Rv
open PySem
def figAt (l : Fig) (a : Nat) : Nat := l.getD (a % l.length) 0
def seg (l : Fig) (k : Nat) : List Nat := (List.range k).map (figAt l)
def rowOf : List Rn → Nat → List Nat
  | [], _ => []
  | r :: R, n => seg r.2 (part r.1 (n : Int)).toNat ++ rowOf R (n - (part r.1 (n : Int)).toNat)
def sg (x : Nat) : PyData := sgn (48 + x)
theorem seg_len (l : Fig) (k : Nat) : (seg l k).length = k := by simp [seg]
theorem part_le {o : Option Int} {n : Nat} (h : ∀ k, o = some k → 0 ≤ k) : (part o (n : Int)).toNat ≤ n := by
  have := part_bd (o := o) (c := (n : Int)) (by omega) h
  omega
theorem rowOf_len {R : List Rn} (h : ∀ r ∈ R, ∀ k, r.1 = some k → 0 ≤ k) (n : Nat) : (rowOf R n).length ≤ n := by
  induction R generalizing n with
  | nil => simp [rowOf]
  | cons r R ih =>
    rw [rowOf, List.length_append, seg_len]
    have h1 := part_le (n := n) (h r (List.mem_cons_self ..))
    have h2 := ih (fun r hr => h r (List.mem_cons_of_mem _ hr)) (n - (part r.1 (n : Int)).toNat)
    omega
section
variable {wf n : Nat} {st : Sto}
theorem fig_get {l : Fig} (h0 : l ≠ []) (hl : l.length ≤ 400) (a : Nat) : idxD (.str (enc l)) (.int ((a : Int) % (l.length : Int))) = some (sg (figAt l a)) := by
  have hp : 0 < l.length := by cases l with | nil => exact absurd rfl h0 | cons x r => simp
  have e : (a : Int) % (l.length : Int) = ((a % l.length : Nat) : Int) := by omega
  rw [e, idx_enc (d := figAt l a) (by omega) (by omega)]
  · rfl
  · rw [Int.toNat_natCast]
    unfold figAt
    rw [List.getD_eq_getElem?_getD, List.getElem?_eq_getElem (Nat.mod_lt _ hp)]
    rfl
theorem s_row {R : List Rn} {size : Nat} (h : Sz R) (hs : size ≤ 100000) : runF tbl glb wf (n + 1) "_law_row" [.dat (rsD R), .dat (.int (size : Int))] st = .ok (.dat (.list ((rowOf R size).map sg)), st) := by
  have hz : ∀ r ∈ R, ∀ k, r.1 = some k → 0 ≤ k := fun r hr => (h r hr).2.2
  refine run_eq (fn := fn__law_row) rfl rfl (by decide) ?_
  show Ok (evS _ _ _ ir__law_row [_, _, none, none, none, none, none] _) _
  simp only [e_var, k_val, k_own, e_glb, k_glb, k_cb, e_int, e_str, e_bl, e_non, e_bin, k_bin, j_bin, e_neg, k_neg, e_nt, k_nt, e_and, e_or, and1, and2, and_t, and_f, or1, or2, or_f, or_t, e_cmp, k_cmp, j_cmp, e_chn, k_chn, j_chn, l_chn, l_chf, e_ite, ite_t, ite_f, e_tup, k_tup, j_tup, e_lst, k_lst, j_lst, e_idx, k_idx, j_idx, e_slc, k_slc, j_slc, l_slc, o_nil, o_one, k_o, e_call, k_call, e_bif, k_bif, e_mth, k_mth, j_mth, e_isi, k_isi, e_lc, k_lc, j_lc, k_lce, k_lca_t, k_lca_f, k_lcb, ts_nil, ts_one, k_tb, e_dg, k_dg, e_dn, el_nil, el_cons, k_el, j_el, er_nil, er_cons, k_er, j_er, i_r1, k_r1, i_r2, k_r2, j_r2, i_en, k_enl, k_ent, i_zp, k_zp, j_zp, l_zp_ll, l_zp_tt, l_zp_tl, l_zp_lt, i_it, k_it, j_it, s_nil, s_seq, k_sqn, k_sqr, k_sqb, k_nx, s_asn, s_aso, ea, k_ea_f, k_ea_t, k_as, s_ast, k_ag, s_par, k_pa, j_pa, l_pa, s_aug, k_au, j_aua, j_aus, s_app, k_ap, j_ap, s_sit, k_si, j_si, l_si, s_a2, k_a2, j_a2, l_a2, s_dp, k_dp, j_dp, s_exp, k_ex, s_iff, k_ift, k_iff, s_for, k_fo, k_foe, s_whl, s_ret, k_re, s_retN, s_brk, s_pass, getS_zero, getS_succ, isOwn, putS, dats, c_lt, c_le, c_gt, c_ge, c_is_none, c_is_int, c_is_str, c_is_tup, c_is_lst, c_is_bool, c_isnot_none, c_isnot_int, c_isnot_str, c_isnot_tup, c_isnot_lst, c_isnot_bool, c_in_sgn, c_eq, c_ne, eqOk_str, eqOk_sh, b_add, b_sub, b_mul, b_mod, b_div, b_addl, b_addt, b_rep, l_lst, l_tup, l_str, i_int, x_lst, x_tup, x_str, m_min, it_l, it_t, it_s, t_lst, q_lst, q_tup, bif_len, bif_int, bif_min, bif_max, bif_sum, bif_sorted, bif_all, bif_any, bif_tuple, bif_list, bif_divmod, mth_count, mth_index, mth_join, List.length_cons, List.length_nil, if_true, if_false, Bool.false_eq_true, Bool.or_false, Bool.false_or, Bool.or_self, List.set_cons_zero, List.set_cons_succ, List.map_cons, List.map_nil, frzS, bG_tp, bG_nm, bGs_nil, bGs_cons, ob_some, gd_t, ob_t, at20, at21, eq_self, and_self, and_true, true_and, decide_true, decide_false, Bool.not_true, Bool.not_false, isi_none_int, isi_none_bool, isi_none_str, isi_none_tuple, isi_none_list, isi_bool_int, isi_bool_bool, isi_bool_str, isi_bool_tuple, isi_bool_list, isi_int_int, isi_int_bool, isi_int_str, isi_int_tuple, isi_int_list, isi_str_int, isi_str_bool, isi_str_str, isi_str_tuple, isi_str_list, isi_tuple_int, isi_tuple_bool, isi_tuple_str, isi_tuple_tuple, isi_tuple_list, isi_list_int, isi_list_bool, isi_list_str, isi_list_tuple, isi_list_list, Option.map_some, bif_repr, getS_set, getS_frz, length_frz, List.length_set, List.length_map, line, Nat.reduceAdd, Nat.reduceLT, Nat.reduceLeDiff, Nat.reduceEqDiff, Nat.zero_le, Nat.zero_lt_succ, Int.reduceAdd, Int.reduceSub, Int.reduceLT, Int.reduceLE, Int.reduceToNat, Int.reduceNeg, fit_lit, fit62_lit, Bool.and_self, Bool.and_true, Bool.true_and, Bool.not_eq_true, wipe_len, wipe_nil, getS_wipe, ir__law_row, rsD]
  refine foT_seq (fun i en' st' => ∃ acc : List Nat, en'.length = 7 ∧ getS en' 1 = some (.val (.dat (.int (size : Int)))) ∧ getS en' 2 = some (.val (.dat (.list (acc.map sg)))) ∧ st' = st ∧ acc.length ≤ size ∧ acc ++ rowOf (R.drop i) (size - acc.length) = rowOf R size) ⟨[], rfl, rfl, rfl, rfl, Nat.zero_le _, rfl⟩ (fun i x en' st' hx hI => ?_) (fun en' st' hI => ?_)
  · obtain ⟨acc, hL, h1, h2, rfl, hle, hq⟩ := hI
    rw [List.getElem?_map] at hx
    cases hr : R[i]? with
    | none => rw [hr] at hx; cases hx
    | some r =>
      rw [hr] at hx
      cases hx
      have hi := (List.getElem?_eq_some_iff.mp hr).1
      rw [List.drop_eq_getElem_cons hi, (List.getElem?_eq_some_iff.mp hr).2] at hq
      obtain ⟨o, l⟩ := r
      obtain ⟨z1, z2, z3⟩ : l ≠ [] ∧ l.length ≤ 400 ∧ ∀ k, o = some k → 0 ≤ k := h (o, l) (List.mem_of_getElem? hr)
      have hpl : (0 : Int) < (l.length : Int) := by cases l with | nil => exact absurd rfl z1 | cons x r => simp only [List.length_cons]; omega
      have esub : (size : Int) - (acc.length : Int) = ((size - acc.length : Nat) : Int) := by omega
      have hp := part_bd (o := o) (c := ((size - acc.length : Nat) : Int)) (by omega) z3
      have fin : ∀ (P : Int) (en2 : En), P = part o ((size - acc.length : Nat) : Int) → en2.length = 7 → getS en2 4 = some (.val (.dat (.str (enc l)))) →
          lcT (runF tbl glb wf n) glb (.idx (.var 4) (.bin .Mod (.bif "int" (.cons (.var 6) .nil)) (.bif "len" (.cons (.var 4) .nil)))) (.nm 6) .nil en2 (upto 0 P.toNat) st' = .ok ((seg l P.toNat).map sg, st') := fun P en2 hP hL2 hg => by
        rw [upto_map, lcT_map (fun a : Nat => sg (figAt l a))]
        · rw [seg, List.map_map]; rfl
        · intro a ha
          simp only [e_var, k_val, k_own, e_glb, k_glb, k_cb, e_int, e_str, e_bl, e_non, e_bin, k_bin, j_bin, e_neg, k_neg, e_nt, k_nt, e_and, e_or, and1, and2, and_t, and_f, or1, or2, or_f, or_t, e_cmp, k_cmp, j_cmp, e_chn, k_chn, j_chn, l_chn, l_chf, e_ite, ite_t, ite_f, e_tup, k_tup, j_tup, e_lst, k_lst, j_lst, e_idx, k_idx, j_idx, e_slc, k_slc, j_slc, l_slc, o_nil, o_one, k_o, e_call, k_call, e_bif, k_bif, e_mth, k_mth, j_mth, e_isi, k_isi, e_lc, k_lc, j_lc, k_lce, k_lca_t, k_lca_f, k_lcb, ts_nil, ts_one, k_tb, e_dg, k_dg, e_dn, el_nil, el_cons, k_el, j_el, er_nil, er_cons, k_er, j_er, i_r1, k_r1, i_r2, k_r2, j_r2, i_en, k_enl, k_ent, i_zp, k_zp, j_zp, l_zp_ll, l_zp_tt, l_zp_tl, l_zp_lt, i_it, k_it, j_it, s_nil, s_seq, k_sqn, k_sqr, k_sqb, k_nx, s_asn, s_aso, ea, k_ea_f, k_ea_t, k_as, s_ast, k_ag, s_par, k_pa, j_pa, l_pa, s_aug, k_au, j_aua, j_aus, s_app, k_ap, j_ap, s_sit, k_si, j_si, l_si, s_a2, k_a2, j_a2, l_a2, s_dp, k_dp, j_dp, s_exp, k_ex, s_iff, k_ift, k_iff, s_for, k_fo, k_foe, s_whl, s_ret, k_re, s_retN, s_brk, s_pass, getS_zero, getS_succ, isOwn, putS, dats, c_lt, c_le, c_gt, c_ge, c_is_none, c_is_int, c_is_str, c_is_tup, c_is_lst, c_is_bool, c_isnot_none, c_isnot_int, c_isnot_str, c_isnot_tup, c_isnot_lst, c_isnot_bool, c_in_sgn, c_eq, c_ne, eqOk_str, eqOk_sh, b_add, b_sub, b_mul, b_mod, b_div, b_addl, b_addt, b_rep, l_lst, l_tup, l_str, i_int, x_lst, x_tup, x_str, m_min, it_l, it_t, it_s, t_lst, q_lst, q_tup, bif_len, bif_int, bif_min, bif_max, bif_sum, bif_sorted, bif_all, bif_any, bif_tuple, bif_list, bif_divmod, mth_count, mth_index, mth_join, List.length_cons, List.length_nil, if_true, if_false, Bool.false_eq_true, Bool.or_false, Bool.false_or, Bool.or_self, List.set_cons_zero, List.set_cons_succ, List.map_cons, List.map_nil, frzS, bG_tp, bG_nm, bGs_nil, bGs_cons, ob_some, gd_t, ob_t, at20, at21, eq_self, and_self, and_true, true_and, decide_true, decide_false, Bool.not_true, Bool.not_false, isi_none_int, isi_none_bool, isi_none_str, isi_none_tuple, isi_none_list, isi_bool_int, isi_bool_bool, isi_bool_str, isi_bool_tuple, isi_bool_list, isi_int_int, isi_int_bool, isi_int_str, isi_int_tuple, isi_int_list, isi_str_int, isi_str_bool, isi_str_str, isi_str_tuple, isi_str_list, isi_tuple_int, isi_tuple_bool, isi_tuple_str, isi_tuple_tuple, isi_tuple_list, isi_list_int, isi_list_bool, isi_list_str, isi_list_tuple, isi_list_list, Option.map_some, bif_repr, getS_set, getS_frz, length_frz, List.length_set, List.length_map, line, Nat.reduceAdd, Nat.reduceLT, Nat.reduceLeDiff, Nat.reduceEqDiff, Nat.zero_le, Nat.zero_lt_succ, Int.reduceAdd, Int.reduceSub, Int.reduceLT, Int.reduceLE, Int.reduceToNat, Int.reduceNeg, fit_lit, fit62_lit, Bool.and_self, Bool.and_true, Bool.true_and, Bool.not_eq_true, wipe_len, wipe_nil, getS_wipe, hL2, hg, enc_len, le_line (n := l.length) (by omega), hpl, fig_get z1 z2]
      have hP : (part o ((size - acc.length : Nat) : Int)).toNat ≤ size - acc.length := part_le z3
      have hseg := seg_len l (part o ((size - acc.length : Nat) : Int)).toNat
      have done : ∀ en2 : En, en2.length = 7 → getS en2 1 = some (.val (.dat (.int (size : Int)))) → getS en2 2 = some (.val (.dat (.list ((acc.map sg) ++ (seg l (part o ((size - acc.length : Nat) : Int)).toNat).map sg)))) → Ok (Res.ok (Out.next en2 st')) (fun ou => ∃ en' st'', ou = .next en' st'' ∧ ∃ acc : List Nat, en'.length = 7 ∧ getS en' 1 = some (.val (.dat (.int (size : Int)))) ∧ getS en' 2 = some (.val (.dat (.list (acc.map sg)))) ∧ st'' = st' ∧ acc.length ≤ size ∧ acc ++ rowOf (R.drop (i + 1)) (size - acc.length) = rowOf R size) := fun en2 a1 a2 a3 => by
        refine ⟨_, rfl, _, _, rfl, acc ++ seg l (part o ((size - acc.length : Nat) : Int)).toNat, a1, a2, by rw [a3, List.map_append], rfl, by rw [List.length_append, hseg]; omega, ?_⟩
        rw [← hq, List.append_assoc, List.length_append, hseg, rowOf, Nat.sub_add_eq]
      cases o with
      | none =>
        simp only [e_var, k_val, k_own, e_glb, k_glb, k_cb, e_int, e_str, e_bl, e_non, e_bin, k_bin, j_bin, e_neg, k_neg, e_nt, k_nt, e_and, e_or, and1, and2, and_t, and_f, or1, or2, or_f, or_t, e_cmp, k_cmp, j_cmp, e_chn, k_chn, j_chn, l_chn, l_chf, e_ite, ite_t, ite_f, e_tup, k_tup, j_tup, e_lst, k_lst, j_lst, e_idx, k_idx, j_idx, e_slc, k_slc, j_slc, l_slc, o_nil, o_one, k_o, e_call, k_call, e_bif, k_bif, e_mth, k_mth, j_mth, e_isi, k_isi, e_lc, k_lc, j_lc, k_lce, k_lca_t, k_lca_f, k_lcb, ts_nil, ts_one, k_tb, e_dg, k_dg, e_dn, el_nil, el_cons, k_el, j_el, er_nil, er_cons, k_er, j_er, i_r1, k_r1, i_r2, k_r2, j_r2, i_en, k_enl, k_ent, i_zp, k_zp, j_zp, l_zp_ll, l_zp_tt, l_zp_tl, l_zp_lt, i_it, k_it, j_it, s_nil, s_seq, k_sqn, k_sqr, k_sqb, k_nx, s_asn, s_aso, ea, k_ea_f, k_ea_t, k_as, s_ast, k_ag, s_par, k_pa, j_pa, l_pa, s_aug, k_au, j_aua, j_aus, s_app, k_ap, j_ap, s_sit, k_si, j_si, l_si, s_a2, k_a2, j_a2, l_a2, s_dp, k_dp, j_dp, s_exp, k_ex, s_iff, k_ift, k_iff, s_for, k_fo, k_foe, s_whl, s_ret, k_re, s_retN, s_brk, s_pass, getS_zero, getS_succ, isOwn, putS, dats, c_lt, c_le, c_gt, c_ge, c_is_none, c_is_int, c_is_str, c_is_tup, c_is_lst, c_is_bool, c_isnot_none, c_isnot_int, c_isnot_str, c_isnot_tup, c_isnot_lst, c_isnot_bool, c_in_sgn, c_eq, c_ne, eqOk_str, eqOk_sh, b_add, b_sub, b_mul, b_mod, b_div, b_addl, b_addt, b_rep, l_lst, l_tup, l_str, i_int, x_lst, x_tup, x_str, m_min, it_l, it_t, it_s, t_lst, q_lst, q_tup, bif_len, bif_int, bif_min, bif_max, bif_sum, bif_sorted, bif_all, bif_any, bif_tuple, bif_list, bif_divmod, mth_count, mth_index, mth_join, List.length_cons, List.length_nil, if_true, if_false, Bool.false_eq_true, Bool.or_false, Bool.false_or, Bool.or_self, List.set_cons_zero, List.set_cons_succ, List.map_cons, List.map_nil, frzS, bG_tp, bG_nm, bGs_nil, bGs_cons, ob_some, gd_t, ob_t, at20, at21, eq_self, and_self, and_true, true_and, decide_true, decide_false, Bool.not_true, Bool.not_false, isi_none_int, isi_none_bool, isi_none_str, isi_none_tuple, isi_none_list, isi_bool_int, isi_bool_bool, isi_bool_str, isi_bool_tuple, isi_bool_list, isi_int_int, isi_int_bool, isi_int_str, isi_int_tuple, isi_int_list, isi_str_int, isi_str_bool, isi_str_str, isi_str_tuple, isi_str_list, isi_tuple_int, isi_tuple_bool, isi_tuple_str, isi_tuple_tuple, isi_tuple_list, isi_list_int, isi_list_bool, isi_list_str, isi_list_tuple, isi_list_list, Option.map_some, bif_repr, getS_set, getS_frz, length_frz, List.length_set, List.length_map, line, Nat.reduceAdd, Nat.reduceLT, Nat.reduceLeDiff, Nat.reduceEqDiff, Nat.zero_le, Nat.zero_lt_succ, Int.reduceAdd, Int.reduceSub, Int.reduceLT, Int.reduceLE, Int.reduceToNat, Int.reduceNeg, fit_lit, fit62_lit, Bool.and_self, Bool.and_true, Bool.true_and, Bool.not_eq_true, wipe_len, wipe_nil, getS_wipe, rnD_none, hL, h1, h2, esub, show fit62 ((size - acc.length : Nat) : Int) = true from fit62_nat (by omega)]
        rw [fin _ _ (rfl : ((size - acc.length : Nat) : Int) = part none ((size - acc.length : Nat) : Int)) (by simp only [e_var, k_val, k_own, e_glb, k_glb, k_cb, e_int, e_str, e_bl, e_non, e_bin, k_bin, j_bin, e_neg, k_neg, e_nt, k_nt, e_and, e_or, and1, and2, and_t, and_f, or1, or2, or_f, or_t, e_cmp, k_cmp, j_cmp, e_chn, k_chn, j_chn, l_chn, l_chf, e_ite, ite_t, ite_f, e_tup, k_tup, j_tup, e_lst, k_lst, j_lst, e_idx, k_idx, j_idx, e_slc, k_slc, j_slc, l_slc, o_nil, o_one, k_o, e_call, k_call, e_bif, k_bif, e_mth, k_mth, j_mth, e_isi, k_isi, e_lc, k_lc, j_lc, k_lce, k_lca_t, k_lca_f, k_lcb, ts_nil, ts_one, k_tb, e_dg, k_dg, e_dn, el_nil, el_cons, k_el, j_el, er_nil, er_cons, k_er, j_er, i_r1, k_r1, i_r2, k_r2, j_r2, i_en, k_enl, k_ent, i_zp, k_zp, j_zp, l_zp_ll, l_zp_tt, l_zp_tl, l_zp_lt, i_it, k_it, j_it, s_nil, s_seq, k_sqn, k_sqr, k_sqb, k_nx, s_asn, s_aso, ea, k_ea_f, k_ea_t, k_as, s_ast, k_ag, s_par, k_pa, j_pa, l_pa, s_aug, k_au, j_aua, j_aus, s_app, k_ap, j_ap, s_sit, k_si, j_si, l_si, s_a2, k_a2, j_a2, l_a2, s_dp, k_dp, j_dp, s_exp, k_ex, s_iff, k_ift, k_iff, s_for, k_fo, k_foe, s_whl, s_ret, k_re, s_retN, s_brk, s_pass, getS_zero, getS_succ, isOwn, putS, dats, c_lt, c_le, c_gt, c_ge, c_is_none, c_is_int, c_is_str, c_is_tup, c_is_lst, c_is_bool, c_isnot_none, c_isnot_int, c_isnot_str, c_isnot_tup, c_isnot_lst, c_isnot_bool, c_in_sgn, c_eq, c_ne, eqOk_str, eqOk_sh, b_add, b_sub, b_mul, b_mod, b_div, b_addl, b_addt, b_rep, l_lst, l_tup, l_str, i_int, x_lst, x_tup, x_str, m_min, it_l, it_t, it_s, t_lst, q_lst, q_tup, bif_len, bif_int, bif_min, bif_max, bif_sum, bif_sorted, bif_all, bif_any, bif_tuple, bif_list, bif_divmod, mth_count, mth_index, mth_join, List.length_cons, List.length_nil, if_true, if_false, Bool.false_eq_true, Bool.or_false, Bool.false_or, Bool.or_self, List.set_cons_zero, List.set_cons_succ, List.map_cons, List.map_nil, frzS, bG_tp, bG_nm, bGs_nil, bGs_cons, ob_some, gd_t, ob_t, at20, at21, eq_self, and_self, and_true, true_and, decide_true, decide_false, Bool.not_true, Bool.not_false, isi_none_int, isi_none_bool, isi_none_str, isi_none_tuple, isi_none_list, isi_bool_int, isi_bool_bool, isi_bool_str, isi_bool_tuple, isi_bool_list, isi_int_int, isi_int_bool, isi_int_str, isi_int_tuple, isi_int_list, isi_str_int, isi_str_bool, isi_str_str, isi_str_tuple, isi_str_list, isi_tuple_int, isi_tuple_bool, isi_tuple_str, isi_tuple_tuple, isi_tuple_list, isi_list_int, isi_list_bool, isi_list_str, isi_list_tuple, isi_list_list, Option.map_some, bif_repr, getS_set, getS_frz, length_frz, List.length_set, List.length_map, line, Nat.reduceAdd, Nat.reduceLT, Nat.reduceLeDiff, Nat.reduceEqDiff, Nat.zero_le, Nat.zero_lt_succ, Int.reduceAdd, Int.reduceSub, Int.reduceLT, Int.reduceLE, Int.reduceToNat, Int.reduceNeg, fit_lit, fit62_lit, Bool.and_self, Bool.and_true, Bool.true_and, Bool.not_eq_true, wipe_len, wipe_nil, getS_wipe, hL]) (by simp only [e_var, k_val, k_own, e_glb, k_glb, k_cb, e_int, e_str, e_bl, e_non, e_bin, k_bin, j_bin, e_neg, k_neg, e_nt, k_nt, e_and, e_or, and1, and2, and_t, and_f, or1, or2, or_f, or_t, e_cmp, k_cmp, j_cmp, e_chn, k_chn, j_chn, l_chn, l_chf, e_ite, ite_t, ite_f, e_tup, k_tup, j_tup, e_lst, k_lst, j_lst, e_idx, k_idx, j_idx, e_slc, k_slc, j_slc, l_slc, o_nil, o_one, k_o, e_call, k_call, e_bif, k_bif, e_mth, k_mth, j_mth, e_isi, k_isi, e_lc, k_lc, j_lc, k_lce, k_lca_t, k_lca_f, k_lcb, ts_nil, ts_one, k_tb, e_dg, k_dg, e_dn, el_nil, el_cons, k_el, j_el, er_nil, er_cons, k_er, j_er, i_r1, k_r1, i_r2, k_r2, j_r2, i_en, k_enl, k_ent, i_zp, k_zp, j_zp, l_zp_ll, l_zp_tt, l_zp_tl, l_zp_lt, i_it, k_it, j_it, s_nil, s_seq, k_sqn, k_sqr, k_sqb, k_nx, s_asn, s_aso, ea, k_ea_f, k_ea_t, k_as, s_ast, k_ag, s_par, k_pa, j_pa, l_pa, s_aug, k_au, j_aua, j_aus, s_app, k_ap, j_ap, s_sit, k_si, j_si, l_si, s_a2, k_a2, j_a2, l_a2, s_dp, k_dp, j_dp, s_exp, k_ex, s_iff, k_ift, k_iff, s_for, k_fo, k_foe, s_whl, s_ret, k_re, s_retN, s_brk, s_pass, getS_zero, getS_succ, isOwn, putS, dats, c_lt, c_le, c_gt, c_ge, c_is_none, c_is_int, c_is_str, c_is_tup, c_is_lst, c_is_bool, c_isnot_none, c_isnot_int, c_isnot_str, c_isnot_tup, c_isnot_lst, c_isnot_bool, c_in_sgn, c_eq, c_ne, eqOk_str, eqOk_sh, b_add, b_sub, b_mul, b_mod, b_div, b_addl, b_addt, b_rep, l_lst, l_tup, l_str, i_int, x_lst, x_tup, x_str, m_min, it_l, it_t, it_s, t_lst, q_lst, q_tup, bif_len, bif_int, bif_min, bif_max, bif_sum, bif_sorted, bif_all, bif_any, bif_tuple, bif_list, bif_divmod, mth_count, mth_index, mth_join, List.length_cons, List.length_nil, if_true, if_false, Bool.false_eq_true, Bool.or_false, Bool.false_or, Bool.or_self, List.set_cons_zero, List.set_cons_succ, List.map_cons, List.map_nil, frzS, bG_tp, bG_nm, bGs_nil, bGs_cons, ob_some, gd_t, ob_t, at20, at21, eq_self, and_self, and_true, true_and, decide_true, decide_false, Bool.not_true, Bool.not_false, isi_none_int, isi_none_bool, isi_none_str, isi_none_tuple, isi_none_list, isi_bool_int, isi_bool_bool, isi_bool_str, isi_bool_tuple, isi_bool_list, isi_int_int, isi_int_bool, isi_int_str, isi_int_tuple, isi_int_list, isi_str_int, isi_str_bool, isi_str_str, isi_str_tuple, isi_str_list, isi_tuple_int, isi_tuple_bool, isi_tuple_str, isi_tuple_tuple, isi_tuple_list, isi_list_int, isi_list_bool, isi_list_str, isi_list_tuple, isi_list_list, Option.map_some, bif_repr, getS_set, getS_frz, length_frz, List.length_set, List.length_map, line, Nat.reduceAdd, Nat.reduceLT, Nat.reduceLeDiff, Nat.reduceEqDiff, Nat.zero_le, Nat.zero_lt_succ, Int.reduceAdd, Int.reduceSub, Int.reduceLT, Int.reduceLE, Int.reduceToNat, Int.reduceNeg, fit_lit, fit62_lit, Bool.and_self, Bool.and_true, Bool.true_and, Bool.not_eq_true, wipe_len, wipe_nil, getS_wipe, hL])]
        simp (disch := first | assumption | omega) only [e_var, k_val, k_own, e_glb, k_glb, k_cb, e_int, e_str, e_bl, e_non, e_bin, k_bin, j_bin, e_neg, k_neg, e_nt, k_nt, e_and, e_or, and1, and2, and_t, and_f, or1, or2, or_f, or_t, e_cmp, k_cmp, j_cmp, e_chn, k_chn, j_chn, l_chn, l_chf, e_ite, ite_t, ite_f, e_tup, k_tup, j_tup, e_lst, k_lst, j_lst, e_idx, k_idx, j_idx, e_slc, k_slc, j_slc, l_slc, o_nil, o_one, k_o, e_call, k_call, e_bif, k_bif, e_mth, k_mth, j_mth, e_isi, k_isi, e_lc, k_lc, j_lc, k_lce, k_lca_t, k_lca_f, k_lcb, ts_nil, ts_one, k_tb, e_dg, k_dg, e_dn, el_nil, el_cons, k_el, j_el, er_nil, er_cons, k_er, j_er, i_r1, k_r1, i_r2, k_r2, j_r2, i_en, k_enl, k_ent, i_zp, k_zp, j_zp, l_zp_ll, l_zp_tt, l_zp_tl, l_zp_lt, i_it, k_it, j_it, s_nil, s_seq, k_sqn, k_sqr, k_sqb, k_nx, s_asn, s_aso, ea, k_ea_f, k_ea_t, k_as, s_ast, k_ag, s_par, k_pa, j_pa, l_pa, s_aug, k_au, j_aua, j_aus, s_app, k_ap, j_ap, s_sit, k_si, j_si, l_si, s_a2, k_a2, j_a2, l_a2, s_dp, k_dp, j_dp, s_exp, k_ex, s_iff, k_ift, k_iff, s_for, k_fo, k_foe, s_whl, s_ret, k_re, s_retN, s_brk, s_pass, getS_zero, getS_succ, isOwn, putS, dats, c_lt, c_le, c_gt, c_ge, c_is_none, c_is_int, c_is_str, c_is_tup, c_is_lst, c_is_bool, c_isnot_none, c_isnot_int, c_isnot_str, c_isnot_tup, c_isnot_lst, c_isnot_bool, c_in_sgn, c_eq, c_ne, eqOk_str, eqOk_sh, b_add, b_sub, b_mul, b_mod, b_div, b_addl, b_addt, b_rep, l_lst, l_tup, l_str, i_int, x_lst, x_tup, x_str, m_min, it_l, it_t, it_s, t_lst, q_lst, q_tup, bif_len, bif_int, bif_min, bif_max, bif_sum, bif_sorted, bif_all, bif_any, bif_tuple, bif_list, bif_divmod, mth_count, mth_index, mth_join, List.length_cons, List.length_nil, if_true, if_false, Bool.false_eq_true, Bool.or_false, Bool.false_or, Bool.or_self, List.set_cons_zero, List.set_cons_succ, List.map_cons, List.map_nil, frzS, bG_tp, bG_nm, bGs_nil, bGs_cons, ob_some, gd_t, ob_t, at20, at21, eq_self, and_self, and_true, true_and, decide_true, decide_false, Bool.not_true, Bool.not_false, isi_none_int, isi_none_bool, isi_none_str, isi_none_tuple, isi_none_list, isi_bool_int, isi_bool_bool, isi_bool_str, isi_bool_tuple, isi_bool_list, isi_int_int, isi_int_bool, isi_int_str, isi_int_tuple, isi_int_list, isi_str_int, isi_str_bool, isi_str_str, isi_str_tuple, isi_str_list, isi_tuple_int, isi_tuple_bool, isi_tuple_str, isi_tuple_tuple, isi_tuple_list, isi_list_int, isi_list_bool, isi_list_str, isi_list_tuple, isi_list_list, Option.map_some, bif_repr, getS_set, getS_frz, length_frz, List.length_set, List.length_map, line, Nat.reduceAdd, Nat.reduceLT, Nat.reduceLeDiff, Nat.reduceEqDiff, Nat.zero_le, Nat.zero_lt_succ, Int.reduceAdd, Int.reduceSub, Int.reduceLT, Int.reduceLE, Int.reduceToNat, Int.reduceNeg, fit_lit, fit62_lit, Bool.and_self, Bool.and_true, Bool.true_and, Bool.not_eq_true, wipe_len, wipe_nil, getS_wipe, ite_line, ite_ltline, fit62_of, fitI_of, mod_pos, ite_and, dec_le, dec_nle, dec_lt, dec_nlt, dec_eq, dec_neq, ite_le, ite_nle, ite_lt, ite_nlt, hL, seg_len]
        refine done _ ?_ ?_ ?_
        · simp only [e_var, k_val, k_own, e_glb, k_glb, k_cb, e_int, e_str, e_bl, e_non, e_bin, k_bin, j_bin, e_neg, k_neg, e_nt, k_nt, e_and, e_or, and1, and2, and_t, and_f, or1, or2, or_f, or_t, e_cmp, k_cmp, j_cmp, e_chn, k_chn, j_chn, l_chn, l_chf, e_ite, ite_t, ite_f, e_tup, k_tup, j_tup, e_lst, k_lst, j_lst, e_idx, k_idx, j_idx, e_slc, k_slc, j_slc, l_slc, o_nil, o_one, k_o, e_call, k_call, e_bif, k_bif, e_mth, k_mth, j_mth, e_isi, k_isi, e_lc, k_lc, j_lc, k_lce, k_lca_t, k_lca_f, k_lcb, ts_nil, ts_one, k_tb, e_dg, k_dg, e_dn, el_nil, el_cons, k_el, j_el, er_nil, er_cons, k_er, j_er, i_r1, k_r1, i_r2, k_r2, j_r2, i_en, k_enl, k_ent, i_zp, k_zp, j_zp, l_zp_ll, l_zp_tt, l_zp_tl, l_zp_lt, i_it, k_it, j_it, s_nil, s_seq, k_sqn, k_sqr, k_sqb, k_nx, s_asn, s_aso, ea, k_ea_f, k_ea_t, k_as, s_ast, k_ag, s_par, k_pa, j_pa, l_pa, s_aug, k_au, j_aua, j_aus, s_app, k_ap, j_ap, s_sit, k_si, j_si, l_si, s_a2, k_a2, j_a2, l_a2, s_dp, k_dp, j_dp, s_exp, k_ex, s_iff, k_ift, k_iff, s_for, k_fo, k_foe, s_whl, s_ret, k_re, s_retN, s_brk, s_pass, getS_zero, getS_succ, isOwn, putS, dats, c_lt, c_le, c_gt, c_ge, c_is_none, c_is_int, c_is_str, c_is_tup, c_is_lst, c_is_bool, c_isnot_none, c_isnot_int, c_isnot_str, c_isnot_tup, c_isnot_lst, c_isnot_bool, c_in_sgn, c_eq, c_ne, eqOk_str, eqOk_sh, b_add, b_sub, b_mul, b_mod, b_div, b_addl, b_addt, b_rep, l_lst, l_tup, l_str, i_int, x_lst, x_tup, x_str, m_min, it_l, it_t, it_s, t_lst, q_lst, q_tup, bif_len, bif_int, bif_min, bif_max, bif_sum, bif_sorted, bif_all, bif_any, bif_tuple, bif_list, bif_divmod, mth_count, mth_index, mth_join, List.length_cons, List.length_nil, if_true, if_false, Bool.false_eq_true, Bool.or_false, Bool.false_or, Bool.or_self, List.set_cons_zero, List.set_cons_succ, List.map_cons, List.map_nil, frzS, bG_tp, bG_nm, bGs_nil, bGs_cons, ob_some, gd_t, ob_t, at20, at21, eq_self, and_self, and_true, true_and, decide_true, decide_false, Bool.not_true, Bool.not_false, isi_none_int, isi_none_bool, isi_none_str, isi_none_tuple, isi_none_list, isi_bool_int, isi_bool_bool, isi_bool_str, isi_bool_tuple, isi_bool_list, isi_int_int, isi_int_bool, isi_int_str, isi_int_tuple, isi_int_list, isi_str_int, isi_str_bool, isi_str_str, isi_str_tuple, isi_str_list, isi_tuple_int, isi_tuple_bool, isi_tuple_str, isi_tuple_tuple, isi_tuple_list, isi_list_int, isi_list_bool, isi_list_str, isi_list_tuple, isi_list_list, Option.map_some, bif_repr, getS_set, getS_frz, length_frz, List.length_set, List.length_map, line, Nat.reduceAdd, Nat.reduceLT, Nat.reduceLeDiff, Nat.reduceEqDiff, Nat.zero_le, Nat.zero_lt_succ, Int.reduceAdd, Int.reduceSub, Int.reduceLT, Int.reduceLE, Int.reduceToNat, Int.reduceNeg, fit_lit, fit62_lit, Bool.and_self, Bool.and_true, Bool.true_and, Bool.not_eq_true, wipe_len, wipe_nil, getS_wipe, hL]
        · simp only [e_var, k_val, k_own, e_glb, k_glb, k_cb, e_int, e_str, e_bl, e_non, e_bin, k_bin, j_bin, e_neg, k_neg, e_nt, k_nt, e_and, e_or, and1, and2, and_t, and_f, or1, or2, or_f, or_t, e_cmp, k_cmp, j_cmp, e_chn, k_chn, j_chn, l_chn, l_chf, e_ite, ite_t, ite_f, e_tup, k_tup, j_tup, e_lst, k_lst, j_lst, e_idx, k_idx, j_idx, e_slc, k_slc, j_slc, l_slc, o_nil, o_one, k_o, e_call, k_call, e_bif, k_bif, e_mth, k_mth, j_mth, e_isi, k_isi, e_lc, k_lc, j_lc, k_lce, k_lca_t, k_lca_f, k_lcb, ts_nil, ts_one, k_tb, e_dg, k_dg, e_dn, el_nil, el_cons, k_el, j_el, er_nil, er_cons, k_er, j_er, i_r1, k_r1, i_r2, k_r2, j_r2, i_en, k_enl, k_ent, i_zp, k_zp, j_zp, l_zp_ll, l_zp_tt, l_zp_tl, l_zp_lt, i_it, k_it, j_it, s_nil, s_seq, k_sqn, k_sqr, k_sqb, k_nx, s_asn, s_aso, ea, k_ea_f, k_ea_t, k_as, s_ast, k_ag, s_par, k_pa, j_pa, l_pa, s_aug, k_au, j_aua, j_aus, s_app, k_ap, j_ap, s_sit, k_si, j_si, l_si, s_a2, k_a2, j_a2, l_a2, s_dp, k_dp, j_dp, s_exp, k_ex, s_iff, k_ift, k_iff, s_for, k_fo, k_foe, s_whl, s_ret, k_re, s_retN, s_brk, s_pass, getS_zero, getS_succ, isOwn, putS, dats, c_lt, c_le, c_gt, c_ge, c_is_none, c_is_int, c_is_str, c_is_tup, c_is_lst, c_is_bool, c_isnot_none, c_isnot_int, c_isnot_str, c_isnot_tup, c_isnot_lst, c_isnot_bool, c_in_sgn, c_eq, c_ne, eqOk_str, eqOk_sh, b_add, b_sub, b_mul, b_mod, b_div, b_addl, b_addt, b_rep, l_lst, l_tup, l_str, i_int, x_lst, x_tup, x_str, m_min, it_l, it_t, it_s, t_lst, q_lst, q_tup, bif_len, bif_int, bif_min, bif_max, bif_sum, bif_sorted, bif_all, bif_any, bif_tuple, bif_list, bif_divmod, mth_count, mth_index, mth_join, List.length_cons, List.length_nil, if_true, if_false, Bool.false_eq_true, Bool.or_false, Bool.false_or, Bool.or_self, List.set_cons_zero, List.set_cons_succ, List.map_cons, List.map_nil, frzS, bG_tp, bG_nm, bGs_nil, bGs_cons, ob_some, gd_t, ob_t, at20, at21, eq_self, and_self, and_true, true_and, decide_true, decide_false, Bool.not_true, Bool.not_false, isi_none_int, isi_none_bool, isi_none_str, isi_none_tuple, isi_none_list, isi_bool_int, isi_bool_bool, isi_bool_str, isi_bool_tuple, isi_bool_list, isi_int_int, isi_int_bool, isi_int_str, isi_int_tuple, isi_int_list, isi_str_int, isi_str_bool, isi_str_str, isi_str_tuple, isi_str_list, isi_tuple_int, isi_tuple_bool, isi_tuple_str, isi_tuple_tuple, isi_tuple_list, isi_list_int, isi_list_bool, isi_list_str, isi_list_tuple, isi_list_list, Option.map_some, bif_repr, getS_set, getS_frz, length_frz, List.length_set, List.length_map, line, Nat.reduceAdd, Nat.reduceLT, Nat.reduceLeDiff, Nat.reduceEqDiff, Nat.zero_le, Nat.zero_lt_succ, Int.reduceAdd, Int.reduceSub, Int.reduceLT, Int.reduceLE, Int.reduceToNat, Int.reduceNeg, fit_lit, fit62_lit, Bool.and_self, Bool.and_true, Bool.true_and, Bool.not_eq_true, wipe_len, wipe_nil, getS_wipe, hL, h1]
        · simp only [e_var, k_val, k_own, e_glb, k_glb, k_cb, e_int, e_str, e_bl, e_non, e_bin, k_bin, j_bin, e_neg, k_neg, e_nt, k_nt, e_and, e_or, and1, and2, and_t, and_f, or1, or2, or_f, or_t, e_cmp, k_cmp, j_cmp, e_chn, k_chn, j_chn, l_chn, l_chf, e_ite, ite_t, ite_f, e_tup, k_tup, j_tup, e_lst, k_lst, j_lst, e_idx, k_idx, j_idx, e_slc, k_slc, j_slc, l_slc, o_nil, o_one, k_o, e_call, k_call, e_bif, k_bif, e_mth, k_mth, j_mth, e_isi, k_isi, e_lc, k_lc, j_lc, k_lce, k_lca_t, k_lca_f, k_lcb, ts_nil, ts_one, k_tb, e_dg, k_dg, e_dn, el_nil, el_cons, k_el, j_el, er_nil, er_cons, k_er, j_er, i_r1, k_r1, i_r2, k_r2, j_r2, i_en, k_enl, k_ent, i_zp, k_zp, j_zp, l_zp_ll, l_zp_tt, l_zp_tl, l_zp_lt, i_it, k_it, j_it, s_nil, s_seq, k_sqn, k_sqr, k_sqb, k_nx, s_asn, s_aso, ea, k_ea_f, k_ea_t, k_as, s_ast, k_ag, s_par, k_pa, j_pa, l_pa, s_aug, k_au, j_aua, j_aus, s_app, k_ap, j_ap, s_sit, k_si, j_si, l_si, s_a2, k_a2, j_a2, l_a2, s_dp, k_dp, j_dp, s_exp, k_ex, s_iff, k_ift, k_iff, s_for, k_fo, k_foe, s_whl, s_ret, k_re, s_retN, s_brk, s_pass, getS_zero, getS_succ, isOwn, putS, dats, c_lt, c_le, c_gt, c_ge, c_is_none, c_is_int, c_is_str, c_is_tup, c_is_lst, c_is_bool, c_isnot_none, c_isnot_int, c_isnot_str, c_isnot_tup, c_isnot_lst, c_isnot_bool, c_in_sgn, c_eq, c_ne, eqOk_str, eqOk_sh, b_add, b_sub, b_mul, b_mod, b_div, b_addl, b_addt, b_rep, l_lst, l_tup, l_str, i_int, x_lst, x_tup, x_str, m_min, it_l, it_t, it_s, t_lst, q_lst, q_tup, bif_len, bif_int, bif_min, bif_max, bif_sum, bif_sorted, bif_all, bif_any, bif_tuple, bif_list, bif_divmod, mth_count, mth_index, mth_join, List.length_cons, List.length_nil, if_true, if_false, Bool.false_eq_true, Bool.or_false, Bool.false_or, Bool.or_self, List.set_cons_zero, List.set_cons_succ, List.map_cons, List.map_nil, frzS, bG_tp, bG_nm, bGs_nil, bGs_cons, ob_some, gd_t, ob_t, at20, at21, eq_self, and_self, and_true, true_and, decide_true, decide_false, Bool.not_true, Bool.not_false, isi_none_int, isi_none_bool, isi_none_str, isi_none_tuple, isi_none_list, isi_bool_int, isi_bool_bool, isi_bool_str, isi_bool_tuple, isi_bool_list, isi_int_int, isi_int_bool, isi_int_str, isi_int_tuple, isi_int_list, isi_str_int, isi_str_bool, isi_str_str, isi_str_tuple, isi_str_list, isi_tuple_int, isi_tuple_bool, isi_tuple_str, isi_tuple_tuple, isi_tuple_list, isi_list_int, isi_list_bool, isi_list_str, isi_list_tuple, isi_list_list, Option.map_some, bif_repr, getS_set, getS_frz, length_frz, List.length_set, List.length_map, line, Nat.reduceAdd, Nat.reduceLT, Nat.reduceLeDiff, Nat.reduceEqDiff, Nat.zero_le, Nat.zero_lt_succ, Int.reduceAdd, Int.reduceSub, Int.reduceLT, Int.reduceLE, Int.reduceToNat, Int.reduceNeg, fit_lit, fit62_lit, Bool.and_self, Bool.and_true, Bool.true_and, Bool.not_eq_true, wipe_len, wipe_nil, getS_wipe, hL]; rfl
      | some k =>
        have ek : (if ((size - acc.length : Nat) : Int) < k then ((size - acc.length : Nat) : Int) else k) = part (some k) ((size - acc.length : Nat) : Int) := by
          simp only [part]
          split <;> split <;> omega
        simp only [e_var, k_val, k_own, e_glb, k_glb, k_cb, e_int, e_str, e_bl, e_non, e_bin, k_bin, j_bin, e_neg, k_neg, e_nt, k_nt, e_and, e_or, and1, and2, and_t, and_f, or1, or2, or_f, or_t, e_cmp, k_cmp, j_cmp, e_chn, k_chn, j_chn, l_chn, l_chf, e_ite, ite_t, ite_f, e_tup, k_tup, j_tup, e_lst, k_lst, j_lst, e_idx, k_idx, j_idx, e_slc, k_slc, j_slc, l_slc, o_nil, o_one, k_o, e_call, k_call, e_bif, k_bif, e_mth, k_mth, j_mth, e_isi, k_isi, e_lc, k_lc, j_lc, k_lce, k_lca_t, k_lca_f, k_lcb, ts_nil, ts_one, k_tb, e_dg, k_dg, e_dn, el_nil, el_cons, k_el, j_el, er_nil, er_cons, k_er, j_er, i_r1, k_r1, i_r2, k_r2, j_r2, i_en, k_enl, k_ent, i_zp, k_zp, j_zp, l_zp_ll, l_zp_tt, l_zp_tl, l_zp_lt, i_it, k_it, j_it, s_nil, s_seq, k_sqn, k_sqr, k_sqb, k_nx, s_asn, s_aso, ea, k_ea_f, k_ea_t, k_as, s_ast, k_ag, s_par, k_pa, j_pa, l_pa, s_aug, k_au, j_aua, j_aus, s_app, k_ap, j_ap, s_sit, k_si, j_si, l_si, s_a2, k_a2, j_a2, l_a2, s_dp, k_dp, j_dp, s_exp, k_ex, s_iff, k_ift, k_iff, s_for, k_fo, k_foe, s_whl, s_ret, k_re, s_retN, s_brk, s_pass, getS_zero, getS_succ, isOwn, putS, dats, c_lt, c_le, c_gt, c_ge, c_is_none, c_is_int, c_is_str, c_is_tup, c_is_lst, c_is_bool, c_isnot_none, c_isnot_int, c_isnot_str, c_isnot_tup, c_isnot_lst, c_isnot_bool, c_in_sgn, c_eq, c_ne, eqOk_str, eqOk_sh, b_add, b_sub, b_mul, b_mod, b_div, b_addl, b_addt, b_rep, l_lst, l_tup, l_str, i_int, x_lst, x_tup, x_str, m_min, it_l, it_t, it_s, t_lst, q_lst, q_tup, bif_len, bif_int, bif_min, bif_max, bif_sum, bif_sorted, bif_all, bif_any, bif_tuple, bif_list, bif_divmod, mth_count, mth_index, mth_join, List.length_cons, List.length_nil, if_true, if_false, Bool.false_eq_true, Bool.or_false, Bool.false_or, Bool.or_self, List.set_cons_zero, List.set_cons_succ, List.map_cons, List.map_nil, frzS, bG_tp, bG_nm, bGs_nil, bGs_cons, ob_some, gd_t, ob_t, at20, at21, eq_self, and_self, and_true, true_and, decide_true, decide_false, Bool.not_true, Bool.not_false, isi_none_int, isi_none_bool, isi_none_str, isi_none_tuple, isi_none_list, isi_bool_int, isi_bool_bool, isi_bool_str, isi_bool_tuple, isi_bool_list, isi_int_int, isi_int_bool, isi_int_str, isi_int_tuple, isi_int_list, isi_str_int, isi_str_bool, isi_str_str, isi_str_tuple, isi_str_list, isi_tuple_int, isi_tuple_bool, isi_tuple_str, isi_tuple_tuple, isi_tuple_list, isi_list_int, isi_list_bool, isi_list_str, isi_list_tuple, isi_list_list, Option.map_some, bif_repr, getS_set, getS_frz, length_frz, List.length_set, List.length_map, line, Nat.reduceAdd, Nat.reduceLT, Nat.reduceLeDiff, Nat.reduceEqDiff, Nat.zero_le, Nat.zero_lt_succ, Int.reduceAdd, Int.reduceSub, Int.reduceLT, Int.reduceLE, Int.reduceToNat, Int.reduceNeg, fit_lit, fit62_lit, Bool.and_self, Bool.and_true, Bool.true_and, Bool.not_eq_true, wipe_len, wipe_nil, getS_wipe, rnD_some, hL, h1, h2, esub, ek, show fit62 (part (some k) ((size - acc.length : Nat) : Int)) = true from decide_eq_true (by omega)]
        rw [fin _ _ (rfl : part (some k) ((size - acc.length : Nat) : Int) = part (some k) ((size - acc.length : Nat) : Int)) (by simp only [e_var, k_val, k_own, e_glb, k_glb, k_cb, e_int, e_str, e_bl, e_non, e_bin, k_bin, j_bin, e_neg, k_neg, e_nt, k_nt, e_and, e_or, and1, and2, and_t, and_f, or1, or2, or_f, or_t, e_cmp, k_cmp, j_cmp, e_chn, k_chn, j_chn, l_chn, l_chf, e_ite, ite_t, ite_f, e_tup, k_tup, j_tup, e_lst, k_lst, j_lst, e_idx, k_idx, j_idx, e_slc, k_slc, j_slc, l_slc, o_nil, o_one, k_o, e_call, k_call, e_bif, k_bif, e_mth, k_mth, j_mth, e_isi, k_isi, e_lc, k_lc, j_lc, k_lce, k_lca_t, k_lca_f, k_lcb, ts_nil, ts_one, k_tb, e_dg, k_dg, e_dn, el_nil, el_cons, k_el, j_el, er_nil, er_cons, k_er, j_er, i_r1, k_r1, i_r2, k_r2, j_r2, i_en, k_enl, k_ent, i_zp, k_zp, j_zp, l_zp_ll, l_zp_tt, l_zp_tl, l_zp_lt, i_it, k_it, j_it, s_nil, s_seq, k_sqn, k_sqr, k_sqb, k_nx, s_asn, s_aso, ea, k_ea_f, k_ea_t, k_as, s_ast, k_ag, s_par, k_pa, j_pa, l_pa, s_aug, k_au, j_aua, j_aus, s_app, k_ap, j_ap, s_sit, k_si, j_si, l_si, s_a2, k_a2, j_a2, l_a2, s_dp, k_dp, j_dp, s_exp, k_ex, s_iff, k_ift, k_iff, s_for, k_fo, k_foe, s_whl, s_ret, k_re, s_retN, s_brk, s_pass, getS_zero, getS_succ, isOwn, putS, dats, c_lt, c_le, c_gt, c_ge, c_is_none, c_is_int, c_is_str, c_is_tup, c_is_lst, c_is_bool, c_isnot_none, c_isnot_int, c_isnot_str, c_isnot_tup, c_isnot_lst, c_isnot_bool, c_in_sgn, c_eq, c_ne, eqOk_str, eqOk_sh, b_add, b_sub, b_mul, b_mod, b_div, b_addl, b_addt, b_rep, l_lst, l_tup, l_str, i_int, x_lst, x_tup, x_str, m_min, it_l, it_t, it_s, t_lst, q_lst, q_tup, bif_len, bif_int, bif_min, bif_max, bif_sum, bif_sorted, bif_all, bif_any, bif_tuple, bif_list, bif_divmod, mth_count, mth_index, mth_join, List.length_cons, List.length_nil, if_true, if_false, Bool.false_eq_true, Bool.or_false, Bool.false_or, Bool.or_self, List.set_cons_zero, List.set_cons_succ, List.map_cons, List.map_nil, frzS, bG_tp, bG_nm, bGs_nil, bGs_cons, ob_some, gd_t, ob_t, at20, at21, eq_self, and_self, and_true, true_and, decide_true, decide_false, Bool.not_true, Bool.not_false, isi_none_int, isi_none_bool, isi_none_str, isi_none_tuple, isi_none_list, isi_bool_int, isi_bool_bool, isi_bool_str, isi_bool_tuple, isi_bool_list, isi_int_int, isi_int_bool, isi_int_str, isi_int_tuple, isi_int_list, isi_str_int, isi_str_bool, isi_str_str, isi_str_tuple, isi_str_list, isi_tuple_int, isi_tuple_bool, isi_tuple_str, isi_tuple_tuple, isi_tuple_list, isi_list_int, isi_list_bool, isi_list_str, isi_list_tuple, isi_list_list, Option.map_some, bif_repr, getS_set, getS_frz, length_frz, List.length_set, List.length_map, line, Nat.reduceAdd, Nat.reduceLT, Nat.reduceLeDiff, Nat.reduceEqDiff, Nat.zero_le, Nat.zero_lt_succ, Int.reduceAdd, Int.reduceSub, Int.reduceLT, Int.reduceLE, Int.reduceToNat, Int.reduceNeg, fit_lit, fit62_lit, Bool.and_self, Bool.and_true, Bool.true_and, Bool.not_eq_true, wipe_len, wipe_nil, getS_wipe, hL]) (by simp only [e_var, k_val, k_own, e_glb, k_glb, k_cb, e_int, e_str, e_bl, e_non, e_bin, k_bin, j_bin, e_neg, k_neg, e_nt, k_nt, e_and, e_or, and1, and2, and_t, and_f, or1, or2, or_f, or_t, e_cmp, k_cmp, j_cmp, e_chn, k_chn, j_chn, l_chn, l_chf, e_ite, ite_t, ite_f, e_tup, k_tup, j_tup, e_lst, k_lst, j_lst, e_idx, k_idx, j_idx, e_slc, k_slc, j_slc, l_slc, o_nil, o_one, k_o, e_call, k_call, e_bif, k_bif, e_mth, k_mth, j_mth, e_isi, k_isi, e_lc, k_lc, j_lc, k_lce, k_lca_t, k_lca_f, k_lcb, ts_nil, ts_one, k_tb, e_dg, k_dg, e_dn, el_nil, el_cons, k_el, j_el, er_nil, er_cons, k_er, j_er, i_r1, k_r1, i_r2, k_r2, j_r2, i_en, k_enl, k_ent, i_zp, k_zp, j_zp, l_zp_ll, l_zp_tt, l_zp_tl, l_zp_lt, i_it, k_it, j_it, s_nil, s_seq, k_sqn, k_sqr, k_sqb, k_nx, s_asn, s_aso, ea, k_ea_f, k_ea_t, k_as, s_ast, k_ag, s_par, k_pa, j_pa, l_pa, s_aug, k_au, j_aua, j_aus, s_app, k_ap, j_ap, s_sit, k_si, j_si, l_si, s_a2, k_a2, j_a2, l_a2, s_dp, k_dp, j_dp, s_exp, k_ex, s_iff, k_ift, k_iff, s_for, k_fo, k_foe, s_whl, s_ret, k_re, s_retN, s_brk, s_pass, getS_zero, getS_succ, isOwn, putS, dats, c_lt, c_le, c_gt, c_ge, c_is_none, c_is_int, c_is_str, c_is_tup, c_is_lst, c_is_bool, c_isnot_none, c_isnot_int, c_isnot_str, c_isnot_tup, c_isnot_lst, c_isnot_bool, c_in_sgn, c_eq, c_ne, eqOk_str, eqOk_sh, b_add, b_sub, b_mul, b_mod, b_div, b_addl, b_addt, b_rep, l_lst, l_tup, l_str, i_int, x_lst, x_tup, x_str, m_min, it_l, it_t, it_s, t_lst, q_lst, q_tup, bif_len, bif_int, bif_min, bif_max, bif_sum, bif_sorted, bif_all, bif_any, bif_tuple, bif_list, bif_divmod, mth_count, mth_index, mth_join, List.length_cons, List.length_nil, if_true, if_false, Bool.false_eq_true, Bool.or_false, Bool.false_or, Bool.or_self, List.set_cons_zero, List.set_cons_succ, List.map_cons, List.map_nil, frzS, bG_tp, bG_nm, bGs_nil, bGs_cons, ob_some, gd_t, ob_t, at20, at21, eq_self, and_self, and_true, true_and, decide_true, decide_false, Bool.not_true, Bool.not_false, isi_none_int, isi_none_bool, isi_none_str, isi_none_tuple, isi_none_list, isi_bool_int, isi_bool_bool, isi_bool_str, isi_bool_tuple, isi_bool_list, isi_int_int, isi_int_bool, isi_int_str, isi_int_tuple, isi_int_list, isi_str_int, isi_str_bool, isi_str_str, isi_str_tuple, isi_str_list, isi_tuple_int, isi_tuple_bool, isi_tuple_str, isi_tuple_tuple, isi_tuple_list, isi_list_int, isi_list_bool, isi_list_str, isi_list_tuple, isi_list_list, Option.map_some, bif_repr, getS_set, getS_frz, length_frz, List.length_set, List.length_map, line, Nat.reduceAdd, Nat.reduceLT, Nat.reduceLeDiff, Nat.reduceEqDiff, Nat.zero_le, Nat.zero_lt_succ, Int.reduceAdd, Int.reduceSub, Int.reduceLT, Int.reduceLE, Int.reduceToNat, Int.reduceNeg, fit_lit, fit62_lit, Bool.and_self, Bool.and_true, Bool.true_and, Bool.not_eq_true, wipe_len, wipe_nil, getS_wipe, hL])]
        simp (disch := first | assumption | omega) only [e_var, k_val, k_own, e_glb, k_glb, k_cb, e_int, e_str, e_bl, e_non, e_bin, k_bin, j_bin, e_neg, k_neg, e_nt, k_nt, e_and, e_or, and1, and2, and_t, and_f, or1, or2, or_f, or_t, e_cmp, k_cmp, j_cmp, e_chn, k_chn, j_chn, l_chn, l_chf, e_ite, ite_t, ite_f, e_tup, k_tup, j_tup, e_lst, k_lst, j_lst, e_idx, k_idx, j_idx, e_slc, k_slc, j_slc, l_slc, o_nil, o_one, k_o, e_call, k_call, e_bif, k_bif, e_mth, k_mth, j_mth, e_isi, k_isi, e_lc, k_lc, j_lc, k_lce, k_lca_t, k_lca_f, k_lcb, ts_nil, ts_one, k_tb, e_dg, k_dg, e_dn, el_nil, el_cons, k_el, j_el, er_nil, er_cons, k_er, j_er, i_r1, k_r1, i_r2, k_r2, j_r2, i_en, k_enl, k_ent, i_zp, k_zp, j_zp, l_zp_ll, l_zp_tt, l_zp_tl, l_zp_lt, i_it, k_it, j_it, s_nil, s_seq, k_sqn, k_sqr, k_sqb, k_nx, s_asn, s_aso, ea, k_ea_f, k_ea_t, k_as, s_ast, k_ag, s_par, k_pa, j_pa, l_pa, s_aug, k_au, j_aua, j_aus, s_app, k_ap, j_ap, s_sit, k_si, j_si, l_si, s_a2, k_a2, j_a2, l_a2, s_dp, k_dp, j_dp, s_exp, k_ex, s_iff, k_ift, k_iff, s_for, k_fo, k_foe, s_whl, s_ret, k_re, s_retN, s_brk, s_pass, getS_zero, getS_succ, isOwn, putS, dats, c_lt, c_le, c_gt, c_ge, c_is_none, c_is_int, c_is_str, c_is_tup, c_is_lst, c_is_bool, c_isnot_none, c_isnot_int, c_isnot_str, c_isnot_tup, c_isnot_lst, c_isnot_bool, c_in_sgn, c_eq, c_ne, eqOk_str, eqOk_sh, b_add, b_sub, b_mul, b_mod, b_div, b_addl, b_addt, b_rep, l_lst, l_tup, l_str, i_int, x_lst, x_tup, x_str, m_min, it_l, it_t, it_s, t_lst, q_lst, q_tup, bif_len, bif_int, bif_min, bif_max, bif_sum, bif_sorted, bif_all, bif_any, bif_tuple, bif_list, bif_divmod, mth_count, mth_index, mth_join, List.length_cons, List.length_nil, if_true, if_false, Bool.false_eq_true, Bool.or_false, Bool.false_or, Bool.or_self, List.set_cons_zero, List.set_cons_succ, List.map_cons, List.map_nil, frzS, bG_tp, bG_nm, bGs_nil, bGs_cons, ob_some, gd_t, ob_t, at20, at21, eq_self, and_self, and_true, true_and, decide_true, decide_false, Bool.not_true, Bool.not_false, isi_none_int, isi_none_bool, isi_none_str, isi_none_tuple, isi_none_list, isi_bool_int, isi_bool_bool, isi_bool_str, isi_bool_tuple, isi_bool_list, isi_int_int, isi_int_bool, isi_int_str, isi_int_tuple, isi_int_list, isi_str_int, isi_str_bool, isi_str_str, isi_str_tuple, isi_str_list, isi_tuple_int, isi_tuple_bool, isi_tuple_str, isi_tuple_tuple, isi_tuple_list, isi_list_int, isi_list_bool, isi_list_str, isi_list_tuple, isi_list_list, Option.map_some, bif_repr, getS_set, getS_frz, length_frz, List.length_set, List.length_map, line, Nat.reduceAdd, Nat.reduceLT, Nat.reduceLeDiff, Nat.reduceEqDiff, Nat.zero_le, Nat.zero_lt_succ, Int.reduceAdd, Int.reduceSub, Int.reduceLT, Int.reduceLE, Int.reduceToNat, Int.reduceNeg, fit_lit, fit62_lit, Bool.and_self, Bool.and_true, Bool.true_and, Bool.not_eq_true, wipe_len, wipe_nil, getS_wipe, ite_line, ite_ltline, fit62_of, fitI_of, mod_pos, ite_and, dec_le, dec_nle, dec_lt, dec_nlt, dec_eq, dec_neq, ite_le, ite_nle, ite_lt, ite_nlt, hL, seg_len]
        refine done _ ?_ ?_ ?_
        · simp only [e_var, k_val, k_own, e_glb, k_glb, k_cb, e_int, e_str, e_bl, e_non, e_bin, k_bin, j_bin, e_neg, k_neg, e_nt, k_nt, e_and, e_or, and1, and2, and_t, and_f, or1, or2, or_f, or_t, e_cmp, k_cmp, j_cmp, e_chn, k_chn, j_chn, l_chn, l_chf, e_ite, ite_t, ite_f, e_tup, k_tup, j_tup, e_lst, k_lst, j_lst, e_idx, k_idx, j_idx, e_slc, k_slc, j_slc, l_slc, o_nil, o_one, k_o, e_call, k_call, e_bif, k_bif, e_mth, k_mth, j_mth, e_isi, k_isi, e_lc, k_lc, j_lc, k_lce, k_lca_t, k_lca_f, k_lcb, ts_nil, ts_one, k_tb, e_dg, k_dg, e_dn, el_nil, el_cons, k_el, j_el, er_nil, er_cons, k_er, j_er, i_r1, k_r1, i_r2, k_r2, j_r2, i_en, k_enl, k_ent, i_zp, k_zp, j_zp, l_zp_ll, l_zp_tt, l_zp_tl, l_zp_lt, i_it, k_it, j_it, s_nil, s_seq, k_sqn, k_sqr, k_sqb, k_nx, s_asn, s_aso, ea, k_ea_f, k_ea_t, k_as, s_ast, k_ag, s_par, k_pa, j_pa, l_pa, s_aug, k_au, j_aua, j_aus, s_app, k_ap, j_ap, s_sit, k_si, j_si, l_si, s_a2, k_a2, j_a2, l_a2, s_dp, k_dp, j_dp, s_exp, k_ex, s_iff, k_ift, k_iff, s_for, k_fo, k_foe, s_whl, s_ret, k_re, s_retN, s_brk, s_pass, getS_zero, getS_succ, isOwn, putS, dats, c_lt, c_le, c_gt, c_ge, c_is_none, c_is_int, c_is_str, c_is_tup, c_is_lst, c_is_bool, c_isnot_none, c_isnot_int, c_isnot_str, c_isnot_tup, c_isnot_lst, c_isnot_bool, c_in_sgn, c_eq, c_ne, eqOk_str, eqOk_sh, b_add, b_sub, b_mul, b_mod, b_div, b_addl, b_addt, b_rep, l_lst, l_tup, l_str, i_int, x_lst, x_tup, x_str, m_min, it_l, it_t, it_s, t_lst, q_lst, q_tup, bif_len, bif_int, bif_min, bif_max, bif_sum, bif_sorted, bif_all, bif_any, bif_tuple, bif_list, bif_divmod, mth_count, mth_index, mth_join, List.length_cons, List.length_nil, if_true, if_false, Bool.false_eq_true, Bool.or_false, Bool.false_or, Bool.or_self, List.set_cons_zero, List.set_cons_succ, List.map_cons, List.map_nil, frzS, bG_tp, bG_nm, bGs_nil, bGs_cons, ob_some, gd_t, ob_t, at20, at21, eq_self, and_self, and_true, true_and, decide_true, decide_false, Bool.not_true, Bool.not_false, isi_none_int, isi_none_bool, isi_none_str, isi_none_tuple, isi_none_list, isi_bool_int, isi_bool_bool, isi_bool_str, isi_bool_tuple, isi_bool_list, isi_int_int, isi_int_bool, isi_int_str, isi_int_tuple, isi_int_list, isi_str_int, isi_str_bool, isi_str_str, isi_str_tuple, isi_str_list, isi_tuple_int, isi_tuple_bool, isi_tuple_str, isi_tuple_tuple, isi_tuple_list, isi_list_int, isi_list_bool, isi_list_str, isi_list_tuple, isi_list_list, Option.map_some, bif_repr, getS_set, getS_frz, length_frz, List.length_set, List.length_map, line, Nat.reduceAdd, Nat.reduceLT, Nat.reduceLeDiff, Nat.reduceEqDiff, Nat.zero_le, Nat.zero_lt_succ, Int.reduceAdd, Int.reduceSub, Int.reduceLT, Int.reduceLE, Int.reduceToNat, Int.reduceNeg, fit_lit, fit62_lit, Bool.and_self, Bool.and_true, Bool.true_and, Bool.not_eq_true, wipe_len, wipe_nil, getS_wipe, hL]
        · simp only [e_var, k_val, k_own, e_glb, k_glb, k_cb, e_int, e_str, e_bl, e_non, e_bin, k_bin, j_bin, e_neg, k_neg, e_nt, k_nt, e_and, e_or, and1, and2, and_t, and_f, or1, or2, or_f, or_t, e_cmp, k_cmp, j_cmp, e_chn, k_chn, j_chn, l_chn, l_chf, e_ite, ite_t, ite_f, e_tup, k_tup, j_tup, e_lst, k_lst, j_lst, e_idx, k_idx, j_idx, e_slc, k_slc, j_slc, l_slc, o_nil, o_one, k_o, e_call, k_call, e_bif, k_bif, e_mth, k_mth, j_mth, e_isi, k_isi, e_lc, k_lc, j_lc, k_lce, k_lca_t, k_lca_f, k_lcb, ts_nil, ts_one, k_tb, e_dg, k_dg, e_dn, el_nil, el_cons, k_el, j_el, er_nil, er_cons, k_er, j_er, i_r1, k_r1, i_r2, k_r2, j_r2, i_en, k_enl, k_ent, i_zp, k_zp, j_zp, l_zp_ll, l_zp_tt, l_zp_tl, l_zp_lt, i_it, k_it, j_it, s_nil, s_seq, k_sqn, k_sqr, k_sqb, k_nx, s_asn, s_aso, ea, k_ea_f, k_ea_t, k_as, s_ast, k_ag, s_par, k_pa, j_pa, l_pa, s_aug, k_au, j_aua, j_aus, s_app, k_ap, j_ap, s_sit, k_si, j_si, l_si, s_a2, k_a2, j_a2, l_a2, s_dp, k_dp, j_dp, s_exp, k_ex, s_iff, k_ift, k_iff, s_for, k_fo, k_foe, s_whl, s_ret, k_re, s_retN, s_brk, s_pass, getS_zero, getS_succ, isOwn, putS, dats, c_lt, c_le, c_gt, c_ge, c_is_none, c_is_int, c_is_str, c_is_tup, c_is_lst, c_is_bool, c_isnot_none, c_isnot_int, c_isnot_str, c_isnot_tup, c_isnot_lst, c_isnot_bool, c_in_sgn, c_eq, c_ne, eqOk_str, eqOk_sh, b_add, b_sub, b_mul, b_mod, b_div, b_addl, b_addt, b_rep, l_lst, l_tup, l_str, i_int, x_lst, x_tup, x_str, m_min, it_l, it_t, it_s, t_lst, q_lst, q_tup, bif_len, bif_int, bif_min, bif_max, bif_sum, bif_sorted, bif_all, bif_any, bif_tuple, bif_list, bif_divmod, mth_count, mth_index, mth_join, List.length_cons, List.length_nil, if_true, if_false, Bool.false_eq_true, Bool.or_false, Bool.false_or, Bool.or_self, List.set_cons_zero, List.set_cons_succ, List.map_cons, List.map_nil, frzS, bG_tp, bG_nm, bGs_nil, bGs_cons, ob_some, gd_t, ob_t, at20, at21, eq_self, and_self, and_true, true_and, decide_true, decide_false, Bool.not_true, Bool.not_false, isi_none_int, isi_none_bool, isi_none_str, isi_none_tuple, isi_none_list, isi_bool_int, isi_bool_bool, isi_bool_str, isi_bool_tuple, isi_bool_list, isi_int_int, isi_int_bool, isi_int_str, isi_int_tuple, isi_int_list, isi_str_int, isi_str_bool, isi_str_str, isi_str_tuple, isi_str_list, isi_tuple_int, isi_tuple_bool, isi_tuple_str, isi_tuple_tuple, isi_tuple_list, isi_list_int, isi_list_bool, isi_list_str, isi_list_tuple, isi_list_list, Option.map_some, bif_repr, getS_set, getS_frz, length_frz, List.length_set, List.length_map, line, Nat.reduceAdd, Nat.reduceLT, Nat.reduceLeDiff, Nat.reduceEqDiff, Nat.zero_le, Nat.zero_lt_succ, Int.reduceAdd, Int.reduceSub, Int.reduceLT, Int.reduceLE, Int.reduceToNat, Int.reduceNeg, fit_lit, fit62_lit, Bool.and_self, Bool.and_true, Bool.true_and, Bool.not_eq_true, wipe_len, wipe_nil, getS_wipe, hL, h1]
        · simp only [e_var, k_val, k_own, e_glb, k_glb, k_cb, e_int, e_str, e_bl, e_non, e_bin, k_bin, j_bin, e_neg, k_neg, e_nt, k_nt, e_and, e_or, and1, and2, and_t, and_f, or1, or2, or_f, or_t, e_cmp, k_cmp, j_cmp, e_chn, k_chn, j_chn, l_chn, l_chf, e_ite, ite_t, ite_f, e_tup, k_tup, j_tup, e_lst, k_lst, j_lst, e_idx, k_idx, j_idx, e_slc, k_slc, j_slc, l_slc, o_nil, o_one, k_o, e_call, k_call, e_bif, k_bif, e_mth, k_mth, j_mth, e_isi, k_isi, e_lc, k_lc, j_lc, k_lce, k_lca_t, k_lca_f, k_lcb, ts_nil, ts_one, k_tb, e_dg, k_dg, e_dn, el_nil, el_cons, k_el, j_el, er_nil, er_cons, k_er, j_er, i_r1, k_r1, i_r2, k_r2, j_r2, i_en, k_enl, k_ent, i_zp, k_zp, j_zp, l_zp_ll, l_zp_tt, l_zp_tl, l_zp_lt, i_it, k_it, j_it, s_nil, s_seq, k_sqn, k_sqr, k_sqb, k_nx, s_asn, s_aso, ea, k_ea_f, k_ea_t, k_as, s_ast, k_ag, s_par, k_pa, j_pa, l_pa, s_aug, k_au, j_aua, j_aus, s_app, k_ap, j_ap, s_sit, k_si, j_si, l_si, s_a2, k_a2, j_a2, l_a2, s_dp, k_dp, j_dp, s_exp, k_ex, s_iff, k_ift, k_iff, s_for, k_fo, k_foe, s_whl, s_ret, k_re, s_retN, s_brk, s_pass, getS_zero, getS_succ, isOwn, putS, dats, c_lt, c_le, c_gt, c_ge, c_is_none, c_is_int, c_is_str, c_is_tup, c_is_lst, c_is_bool, c_isnot_none, c_isnot_int, c_isnot_str, c_isnot_tup, c_isnot_lst, c_isnot_bool, c_in_sgn, c_eq, c_ne, eqOk_str, eqOk_sh, b_add, b_sub, b_mul, b_mod, b_div, b_addl, b_addt, b_rep, l_lst, l_tup, l_str, i_int, x_lst, x_tup, x_str, m_min, it_l, it_t, it_s, t_lst, q_lst, q_tup, bif_len, bif_int, bif_min, bif_max, bif_sum, bif_sorted, bif_all, bif_any, bif_tuple, bif_list, bif_divmod, mth_count, mth_index, mth_join, List.length_cons, List.length_nil, if_true, if_false, Bool.false_eq_true, Bool.or_false, Bool.false_or, Bool.or_self, List.set_cons_zero, List.set_cons_succ, List.map_cons, List.map_nil, frzS, bG_tp, bG_nm, bGs_nil, bGs_cons, ob_some, gd_t, ob_t, at20, at21, eq_self, and_self, and_true, true_and, decide_true, decide_false, Bool.not_true, Bool.not_false, isi_none_int, isi_none_bool, isi_none_str, isi_none_tuple, isi_none_list, isi_bool_int, isi_bool_bool, isi_bool_str, isi_bool_tuple, isi_bool_list, isi_int_int, isi_int_bool, isi_int_str, isi_int_tuple, isi_int_list, isi_str_int, isi_str_bool, isi_str_str, isi_str_tuple, isi_str_list, isi_tuple_int, isi_tuple_bool, isi_tuple_str, isi_tuple_tuple, isi_tuple_list, isi_list_int, isi_list_bool, isi_list_str, isi_list_tuple, isi_list_list, Option.map_some, bif_repr, getS_set, getS_frz, length_frz, List.length_set, List.length_map, line, Nat.reduceAdd, Nat.reduceLT, Nat.reduceLeDiff, Nat.reduceEqDiff, Nat.zero_le, Nat.zero_lt_succ, Int.reduceAdd, Int.reduceSub, Int.reduceLT, Int.reduceLE, Int.reduceToNat, Int.reduceNeg, fit_lit, fit62_lit, Bool.and_self, Bool.and_true, Bool.true_and, Bool.not_eq_true, wipe_len, wipe_nil, getS_wipe, hL]
  · obtain ⟨acc, hL, h1, h2, rfl, hle, hq⟩ := hI
    rw [List.length_map, List.drop_length] at hq
    simp only [e_var, k_val, k_own, e_glb, k_glb, k_cb, e_int, e_str, e_bl, e_non, e_bin, k_bin, j_bin, e_neg, k_neg, e_nt, k_nt, e_and, e_or, and1, and2, and_t, and_f, or1, or2, or_f, or_t, e_cmp, k_cmp, j_cmp, e_chn, k_chn, j_chn, l_chn, l_chf, e_ite, ite_t, ite_f, e_tup, k_tup, j_tup, e_lst, k_lst, j_lst, e_idx, k_idx, j_idx, e_slc, k_slc, j_slc, l_slc, o_nil, o_one, k_o, e_call, k_call, e_bif, k_bif, e_mth, k_mth, j_mth, e_isi, k_isi, e_lc, k_lc, j_lc, k_lce, k_lca_t, k_lca_f, k_lcb, ts_nil, ts_one, k_tb, e_dg, k_dg, e_dn, el_nil, el_cons, k_el, j_el, er_nil, er_cons, k_er, j_er, i_r1, k_r1, i_r2, k_r2, j_r2, i_en, k_enl, k_ent, i_zp, k_zp, j_zp, l_zp_ll, l_zp_tt, l_zp_tl, l_zp_lt, i_it, k_it, j_it, s_nil, s_seq, k_sqn, k_sqr, k_sqb, k_nx, s_asn, s_aso, ea, k_ea_f, k_ea_t, k_as, s_ast, k_ag, s_par, k_pa, j_pa, l_pa, s_aug, k_au, j_aua, j_aus, s_app, k_ap, j_ap, s_sit, k_si, j_si, l_si, s_a2, k_a2, j_a2, l_a2, s_dp, k_dp, j_dp, s_exp, k_ex, s_iff, k_ift, k_iff, s_for, k_fo, k_foe, s_whl, s_ret, k_re, s_retN, s_brk, s_pass, getS_zero, getS_succ, isOwn, putS, dats, c_lt, c_le, c_gt, c_ge, c_is_none, c_is_int, c_is_str, c_is_tup, c_is_lst, c_is_bool, c_isnot_none, c_isnot_int, c_isnot_str, c_isnot_tup, c_isnot_lst, c_isnot_bool, c_in_sgn, c_eq, c_ne, eqOk_str, eqOk_sh, b_add, b_sub, b_mul, b_mod, b_div, b_addl, b_addt, b_rep, l_lst, l_tup, l_str, i_int, x_lst, x_tup, x_str, m_min, it_l, it_t, it_s, t_lst, q_lst, q_tup, bif_len, bif_int, bif_min, bif_max, bif_sum, bif_sorted, bif_all, bif_any, bif_tuple, bif_list, bif_divmod, mth_count, mth_index, mth_join, List.length_cons, List.length_nil, if_true, if_false, Bool.false_eq_true, Bool.or_false, Bool.false_or, Bool.or_self, List.set_cons_zero, List.set_cons_succ, List.map_cons, List.map_nil, frzS, bG_tp, bG_nm, bGs_nil, bGs_cons, ob_some, gd_t, ob_t, at20, at21, eq_self, and_self, and_true, true_and, decide_true, decide_false, Bool.not_true, Bool.not_false, isi_none_int, isi_none_bool, isi_none_str, isi_none_tuple, isi_none_list, isi_bool_int, isi_bool_bool, isi_bool_str, isi_bool_tuple, isi_bool_list, isi_int_int, isi_int_bool, isi_int_str, isi_int_tuple, isi_int_list, isi_str_int, isi_str_bool, isi_str_str, isi_str_tuple, isi_str_list, isi_tuple_int, isi_tuple_bool, isi_tuple_str, isi_tuple_tuple, isi_tuple_list, isi_list_int, isi_list_bool, isi_list_str, isi_list_tuple, isi_list_list, Option.map_some, bif_repr, getS_set, getS_frz, length_frz, List.length_set, List.length_map, line, Nat.reduceAdd, Nat.reduceLT, Nat.reduceLeDiff, Nat.reduceEqDiff, Nat.zero_le, Nat.zero_lt_succ, Int.reduceAdd, Int.reduceSub, Int.reduceLT, Int.reduceLE, Int.reduceToNat, Int.reduceNeg, fit_lit, fit62_lit, Bool.and_self, Bool.and_true, Bool.true_and, Bool.not_eq_true, wipe_len, wipe_nil, getS_wipe, h2]
    refine ⟨_, rfl, ?_⟩
    rw [← hq, rowOf, List.append_nil]
end
end Rm

set_option Elab.async false
set_option linter.all false
set_option maxRecDepth 100000
set_option maxHeartbeats 1000000
/-! Rv, mathematics: the figure of a coin. -/
namespace Rm
open Rv
open PySem
def dg (R : List Rn) (c : Nat) : Nat := match place R (c : Int) 0 with
  | some (i, a) => figAt (R.getD i (none, [])).2 a.toNat
  | none => 0
def pl (R : List Rn) (c : Nat) : Nat × Nat := match place R (c : Int) 0 with
  | some (i, a) => (i, a.toNat)
  | none => (0, 0)
def placesOf : List Rn → Nat → Nat → List (Nat × Nat)
  | [], _, _ => []
  | r :: R, n, i => (List.range (part r.1 (n : Int)).toNat).map (fun k => (i, k)) ++ placesOf R (n - (part r.1 (n : Int)).toNat) (i + 1)
theorem row_place {R : List Rn} {n c : Nat} {i0 i : Nat} {a : Int} (hz : ∀ r ∈ R, ∀ k, r.1 = some k → 0 ≤ k) (hc : c < n) (hp : place R (c : Int) i0 = some (i, a)) :
    ∃ o f, R[i - i0]? = some (o, f) ∧ i0 ≤ i ∧ 0 ≤ a ∧ (rowOf R n)[c]? = some (figAt f a.toNat) ∧ (placesOf R n i0)[c]? = some (i, a.toNat) := by
  induction R generalizing n c i0 with
  | nil => cases hp
  | cons r R ih =>
    obtain ⟨o, l⟩ := r
    have h0 : ∀ k, o = some k → 0 ≤ k := hz (o, l) (List.mem_cons_self ..)
    have here : i0 = i → (c : Int) = a → c < (part o (n : Int)).toNat → ∃ o' f, ((o, l) :: R)[i - i0]? = some (o', f) ∧ i0 ≤ i ∧ 0 ≤ a ∧ (rowOf ((o, l) :: R) n)[c]? = some (figAt f a.toNat) ∧ (placesOf ((o, l) :: R) n i0)[c]? = some (i, a.toNat) := by
      intro e1 e2 e3
      subst e1 e2
      refine ⟨o, l, by rw [Nat.sub_self]; rfl, Nat.le_refl _, by omega, ?_, ?_⟩
      · simp only [rowOf]
        rw [List.getElem?_append_left (by rw [seg_len]; exact e3), Int.toNat_natCast, seg, List.getElem?_map, List.getElem?_range e3]
        rfl
      · simp only [placesOf]
        rw [List.getElem?_append_left (by simpa using e3), Int.toNat_natCast, List.getElem?_map, List.getElem?_range e3]
        rfl
    cases o with
    | none =>
      simp only [place, Option.some.injEq, Prod.mk.injEq] at hp
      exact here hp.1 hp.2 (by simp only [part]; omega)
    | some k =>
      simp only [place] at hp
      have hk := h0 k rfl
      by_cases hlt : (c : Int) < k
      · rw [if_pos hlt] at hp
        simp only [Option.some.injEq, Prod.mk.injEq] at hp
        exact here hp.1 hp.2 (by simp only [part]; split <;> omega)
      · rw [if_neg hlt] at hp
        have ek : (c : Int) - k = ((c - k.toNat : Nat) : Int) := by omega
        have ep : (part (some k) (n : Int)).toNat = k.toNat := by simp only [part]; split <;> omega
        rw [ek] at hp
        obtain ⟨o', f, g1, g2, g3, g4, g5⟩ := ih (n := n - k.toNat) (fun r hr => hz r (List.mem_cons_of_mem _ hr)) (by omega) hp
        refine ⟨o', f, by rw [show i - i0 = (i - (i0 + 1)) + 1 by omega]; exact g1, by omega, g3, ?_, ?_⟩
        · simp only [rowOf]
          rw [ep, List.getElem?_append_right (by rw [seg_len]; omega), seg_len]
          exact g4
        · simp only [placesOf]
          rw [ep, List.getElem?_append_right (by simp; omega), List.length_map, List.length_range]
          exact g5
theorem full_nn {m : Nat} {rs : Rs} {l : Fig} (h : Good m rs l) : ∀ r ∈ full rs l, ∀ k, r.1 = some k → 0 ≤ k := fun r hr k hk => by
  have := (h.fig r hr).2 k hk
  omega
theorem ext_range {α : Type} {l : List α} {n : Nat} {f : Nat → α} (hl : l.length ≤ n) (h : ∀ c, c < n → l[c]? = some (f c)) : l = (List.range n).map f := by
  have hn : l.length = n := by
    rcases Nat.lt_or_ge l.length n with q | q
    · have := h l.length q
      rw [List.getElem?_eq_none (Nat.le_refl _)] at this
      cases this
    · omega
  refine List.ext_getElem? fun c => ?_
  rw [List.getElem?_map]
  by_cases hc : c < n
  · rw [h c hc, List.getElem?_range hc]
    rfl
  · rw [List.getElem?_eq_none (by omega), List.getElem?_eq_none (by simpa using hc)]
    rfl
theorem placesOf_len {R : List Rn} (h : ∀ r ∈ R, ∀ k, r.1 = some k → 0 ≤ k) (n i : Nat) : (placesOf R n i).length ≤ n := by
  induction R generalizing n i with
  | nil => simp [placesOf]
  | cons r R ih =>
    rw [placesOf, List.length_append, List.length_map, List.length_range]
    have h1 := part_le (n := n) (h r (List.mem_cons_self ..))
    have h2 := ih (fun r hr => h r (List.mem_cons_of_mem _ hr)) (n - (part r.1 (n : Int)).toNat) (i + 1)
    omega
section
variable {m : Nat} {rs : Rs} {l : Fig} (h : Good m rs l)
include h
theorem row_eq (n : Nat) : rowOf (full rs l) n = (List.range n).map (dg (full rs l)) := ext_range (rowOf_len (full_nn h) n) fun c hc => by
  obtain ⟨i, a, h1, _, _, _⟩ := place_full rs l (c : Int) 0
  obtain ⟨o, f, g1, g2, g3, g4, g5⟩ := row_place (full_nn h) hc h1
  rw [g4, dg, h1]
  simp only [List.getD_eq_getElem?_getD]
  rw [Nat.sub_zero] at g1
  rw [g1]
  rfl
theorem places_eq (n : Nat) : placesOf (full rs l) n 0 = (List.range n).map (pl (full rs l)) := ext_range (placesOf_len (full_nn h) n 0) fun c hc => by
  obtain ⟨i, a, h1, _, _, _⟩ := place_full rs l (c : Int) 0
  obtain ⟨o, f, g1, g2, g3, g4, g5⟩ := row_place (full_nn h) hc h1
  rw [g5, pl, h1]
/-- one coin, by its figure -/
theorem coinD (c : Nat) : ∃ (i : Nat) (a : Int) (o : Option Int) (f : Fig), place (full rs l) (c : Int) 0 = some (i, a) ∧ (full rs l)[i]? = some (o, f) ∧ FigOk m f ∧ 0 ≤ a ∧ f[(a % (f.length : Int)).toNat]? = some (dg (full rs l) c) ∧ dg (full rs l) c < m ∧
    pl (full rs l) c = (i, a.toNat) ∧ ∀ d, cby (full rs l) d ((c : Int) + 1) = cby (full rs l) d (c : Int) + if dg (full rs l) c = d then 1 else 0 := by
  obtain ⟨i, a, o, f, x, h1, h2, h3, h4, h5, h6, h7, h8, h9, h10⟩ := coin h (c := (c : Int)) (by omega)
  have e : dg (full rs l) c = x := by
    rw [dg, h1]
    simp only [List.getD_eq_getElem?_getD, h2, Option.getD_some, figAt]
    have hp := h3.pos
    have : (a % (f.length : Int)).toNat = a.toNat % f.length := by
      obtain ⟨k, rfl⟩ := Int.eq_ofNat_of_zero_le h4
      rw [Int.toNat_natCast]
      have : ((k : Int) % (f.length : Int)) = ((k % f.length : Nat) : Int) := by omega
      omega
    rw [← this, h6]
    rfl
  refine ⟨i, a, o, f, h1, h2, h3, h4, by rw [e]; exact h6, by rw [e]; exact h7, by rw [pl, h1], fun d => by rw [e]; exact h10 d⟩
theorem dg_lt (c : Nat) : dg (full rs l) c < m := by
  obtain ⟨i, a, o, f, _, _, _, _, _, h7, _, _⟩ := coinD h c
  exact h7
theorem cby_dg (c d : Nat) : cby (full rs l) d ((c : Int) + 1) = cby (full rs l) d (c : Int) + if dg (full rs l) c = d then 1 else 0 := by
  obtain ⟨i, a, o, f, _, _, _, _, _, _, _, h8⟩ := coinD h c
  exact h8 d
theorem cby_le (c d : Nat) : 0 ≤ cby (full rs l) d (c : Int) ∧ cby (full rs l) d (c : Int) ≤ (c : Int) := by
  induction c with
  | zero =>
    have := cby_zero (full_nn h) d
    simp only [Int.natCast_zero] at *
    omega
  | succ c ih =>
    have := cby_dg h c d
    rw [Int.natCast_succ, this]
    split <;> omega
end
def nm (ps : List Str) (x : Nat) : Str := ps.getD x ""
theorem nm_at {ps : List Str} {x : Nat} (h : x < ps.length) : ps[x]? = some (nm ps x) := by
  rw [nm, List.getD_eq_getElem?_getD, List.getElem?_eq_getElem h]
  rfl
theorem DealOk.good {ps : List Str} {rs : Rs} {l : Fig} (h : DealOk ps rs l) : Good ps.length rs l := ⟨h.last, h.each⟩
section
variable {wf n : Nat} {st : Sto}
theorem s_nameD {ps : List Str} {rs : Rs} {l : Fig} {c : Nat} (h : DealOk ps rs l) (hc : (c : Int) ≤ 10 ^ 30) : runF tbl glb wf (n + 4) "name_at" [.dat (dealD ps (full rs l)), .dat (.int (c : Int))] st = .ok (.dat (.str (nm ps (dg (full rs l) c))), st) := by
  obtain ⟨i, a, o, f, h1, h2, h3, h4, h5, h6, h7, h8⟩ := coinD h.good c
  exact s_name_at h (by omega) hc h1 h2 h5 (by have := h.le; omega) (nm_at h6)
theorem s_nameI {ps : List Str} {rs : Rs} {l : Fig} {c : Nat} (h : DealOk ps rs l) : runF tbl glb wf (n + 2) "name_in" [.dat (dealD ps (full rs l)), .dat (.int (c : Int))] st = .ok (.dat (.str (nm ps (dg (full rs l) c))), st) := by
  obtain ⟨i, a, o, f, h1, h2, h3, h4, h5, h6, h7, h8⟩ := coinD h.good c
  exact s_name_in h1 h2 h3.1 h3.2.1 h5 (by have := h.le; omega) (nm_at h6)
theorem s_row_part {ps : List Str} {rs : Rs} {l : Fig} {b k : Nat} (h : DealOk ps rs l) (hb : (b : Int) ≤ 10 ^ 30) (hk : k ≤ 1000) : runF tbl glb wf (n + 4) "row_part" [.dat (dealD ps (full rs l)), .dat (.int (b : Int)), .dat (.int (k : Int))] st = .ok (.dat (.tuple ((List.range k).map fun j => .str (nm ps (dg (full rs l) (b + j))))), st) := by
  refine run_def (fn := fn_row_part) rfl rfl (by decide) ?_
  show evS _ _ _ ir_row_part [_, _, _, none] _ = _
  simp only [e_var, k_val, k_own, e_glb, k_glb, k_cb, e_int, e_str, e_bl, e_non, e_bin, k_bin, j_bin, e_neg, k_neg, e_nt, k_nt, e_and, e_or, and1, and2, and_t, and_f, or1, or2, or_f, or_t, e_cmp, k_cmp, j_cmp, e_chn, k_chn, j_chn, l_chn, l_chf, e_ite, ite_t, ite_f, e_tup, k_tup, j_tup, e_lst, k_lst, j_lst, e_idx, k_idx, j_idx, e_slc, k_slc, j_slc, l_slc, o_nil, o_one, k_o, e_call, k_call, e_bif, k_bif, e_mth, k_mth, j_mth, e_isi, k_isi, e_lc, k_lc, j_lc, k_lce, k_lca_t, k_lca_f, k_lcb, ts_nil, ts_one, k_tb, e_dg, k_dg, e_dn, el_nil, el_cons, k_el, j_el, er_nil, er_cons, k_er, j_er, i_r1, k_r1, i_r2, k_r2, j_r2, i_en, k_enl, k_ent, i_zp, k_zp, j_zp, l_zp_ll, l_zp_tt, l_zp_tl, l_zp_lt, i_it, k_it, j_it, s_nil, s_seq, k_sqn, k_sqr, k_sqb, k_nx, s_asn, s_aso, ea, k_ea_f, k_ea_t, k_as, s_ast, k_ag, s_par, k_pa, j_pa, l_pa, s_aug, k_au, j_aua, j_aus, s_app, k_ap, j_ap, s_sit, k_si, j_si, l_si, s_a2, k_a2, j_a2, l_a2, s_dp, k_dp, j_dp, s_exp, k_ex, s_iff, k_ift, k_iff, s_for, k_fo, k_foe, s_whl, s_ret, k_re, s_retN, s_brk, s_pass, getS_zero, getS_succ, isOwn, putS, dats, c_lt, c_le, c_gt, c_ge, c_is_none, c_is_int, c_is_str, c_is_tup, c_is_lst, c_is_bool, c_isnot_none, c_isnot_int, c_isnot_str, c_isnot_tup, c_isnot_lst, c_isnot_bool, c_in_sgn, c_eq, c_ne, eqOk_str, eqOk_sh, b_add, b_sub, b_mul, b_mod, b_div, b_addl, b_addt, b_rep, l_lst, l_tup, l_str, i_int, x_lst, x_tup, x_str, m_min, it_l, it_t, it_s, t_lst, q_lst, q_tup, bif_len, bif_int, bif_min, bif_max, bif_sum, bif_sorted, bif_all, bif_any, bif_tuple, bif_list, bif_divmod, mth_count, mth_index, mth_join, List.length_cons, List.length_nil, if_true, if_false, Bool.false_eq_true, Bool.or_false, Bool.false_or, Bool.or_self, List.set_cons_zero, List.set_cons_succ, List.map_cons, List.map_nil, frzS, bG_tp, bG_nm, bGs_nil, bGs_cons, ob_some, gd_t, ob_t, at20, at21, eq_self, and_self, and_true, true_and, decide_true, decide_false, Bool.not_true, Bool.not_false, isi_none_int, isi_none_bool, isi_none_str, isi_none_tuple, isi_none_list, isi_bool_int, isi_bool_bool, isi_bool_str, isi_bool_tuple, isi_bool_list, isi_int_int, isi_int_bool, isi_int_str, isi_int_tuple, isi_int_list, isi_str_int, isi_str_bool, isi_str_str, isi_str_tuple, isi_str_list, isi_tuple_int, isi_tuple_bool, isi_tuple_str, isi_tuple_tuple, isi_tuple_list, isi_list_int, isi_list_bool, isi_list_str, isi_list_tuple, isi_list_list, Option.map_some, bif_repr, getS_set, getS_frz, length_frz, List.length_set, List.length_map, line, Nat.reduceAdd, Nat.reduceLT, Nat.reduceLeDiff, Nat.reduceEqDiff, Nat.zero_le, Nat.zero_lt_succ, Int.reduceAdd, Int.reduceSub, Int.reduceLT, Int.reduceLE, Int.reduceToNat, Int.reduceNeg, fit_lit, fit62_lit, Bool.and_self, Bool.and_true, Bool.true_and, Bool.not_eq_true, wipe_len, wipe_nil, getS_wipe, ir_row_part, s_need_deal h, s_need_number (i := (b : Int)) (by omega) hb, gMW, s_is_whole (i := (k : Int)) (a := 0) (b := 1000) (by omega) (by omega), fit62_nat (k := k) (by omega), Int.toNat_natCast, upto_map]
  rw [lcT_map (fun j : Nat => PyData.str (nm ps (dg (full rs l) (b + j))))]
  · simp (disch := first | assumption | omega) only [e_var, k_val, k_own, e_glb, k_glb, k_cb, e_int, e_str, e_bl, e_non, e_bin, k_bin, j_bin, e_neg, k_neg, e_nt, k_nt, e_and, e_or, and1, and2, and_t, and_f, or1, or2, or_f, or_t, e_cmp, k_cmp, j_cmp, e_chn, k_chn, j_chn, l_chn, l_chf, e_ite, ite_t, ite_f, e_tup, k_tup, j_tup, e_lst, k_lst, j_lst, e_idx, k_idx, j_idx, e_slc, k_slc, j_slc, l_slc, o_nil, o_one, k_o, e_call, k_call, e_bif, k_bif, e_mth, k_mth, j_mth, e_isi, k_isi, e_lc, k_lc, j_lc, k_lce, k_lca_t, k_lca_f, k_lcb, ts_nil, ts_one, k_tb, e_dg, k_dg, e_dn, el_nil, el_cons, k_el, j_el, er_nil, er_cons, k_er, j_er, i_r1, k_r1, i_r2, k_r2, j_r2, i_en, k_enl, k_ent, i_zp, k_zp, j_zp, l_zp_ll, l_zp_tt, l_zp_tl, l_zp_lt, i_it, k_it, j_it, s_nil, s_seq, k_sqn, k_sqr, k_sqb, k_nx, s_asn, s_aso, ea, k_ea_f, k_ea_t, k_as, s_ast, k_ag, s_par, k_pa, j_pa, l_pa, s_aug, k_au, j_aua, j_aus, s_app, k_ap, j_ap, s_sit, k_si, j_si, l_si, s_a2, k_a2, j_a2, l_a2, s_dp, k_dp, j_dp, s_exp, k_ex, s_iff, k_ift, k_iff, s_for, k_fo, k_foe, s_whl, s_ret, k_re, s_retN, s_brk, s_pass, getS_zero, getS_succ, isOwn, putS, dats, c_lt, c_le, c_gt, c_ge, c_is_none, c_is_int, c_is_str, c_is_tup, c_is_lst, c_is_bool, c_isnot_none, c_isnot_int, c_isnot_str, c_isnot_tup, c_isnot_lst, c_isnot_bool, c_in_sgn, c_eq, c_ne, eqOk_str, eqOk_sh, b_add, b_sub, b_mul, b_mod, b_div, b_addl, b_addt, b_rep, l_lst, l_tup, l_str, i_int, x_lst, x_tup, x_str, m_min, it_l, it_t, it_s, t_lst, q_lst, q_tup, bif_len, bif_int, bif_min, bif_max, bif_sum, bif_sorted, bif_all, bif_any, bif_tuple, bif_list, bif_divmod, mth_count, mth_index, mth_join, List.length_cons, List.length_nil, if_true, if_false, Bool.false_eq_true, Bool.or_false, Bool.false_or, Bool.or_self, List.set_cons_zero, List.set_cons_succ, List.map_cons, List.map_nil, frzS, bG_tp, bG_nm, bGs_nil, bGs_cons, ob_some, gd_t, ob_t, at20, at21, eq_self, and_self, and_true, true_and, decide_true, decide_false, Bool.not_true, Bool.not_false, isi_none_int, isi_none_bool, isi_none_str, isi_none_tuple, isi_none_list, isi_bool_int, isi_bool_bool, isi_bool_str, isi_bool_tuple, isi_bool_list, isi_int_int, isi_int_bool, isi_int_str, isi_int_tuple, isi_int_list, isi_str_int, isi_str_bool, isi_str_str, isi_str_tuple, isi_str_list, isi_tuple_int, isi_tuple_bool, isi_tuple_str, isi_tuple_tuple, isi_tuple_list, isi_list_int, isi_list_bool, isi_list_str, isi_list_tuple, isi_list_list, Option.map_some, bif_repr, getS_set, getS_frz, length_frz, List.length_set, List.length_map, line, Nat.reduceAdd, Nat.reduceLT, Nat.reduceLeDiff, Nat.reduceEqDiff, Nat.zero_le, Nat.zero_lt_succ, Int.reduceAdd, Int.reduceSub, Int.reduceLT, Int.reduceLE, Int.reduceToNat, Int.reduceNeg, fit_lit, fit62_lit, Bool.and_self, Bool.and_true, Bool.true_and, Bool.not_eq_true, wipe_len, wipe_nil, getS_wipe, ite_line, ite_ltline, fit62_of, fitI_of, mod_pos, ite_and, dec_le, dec_nle, dec_lt, dec_nlt, dec_eq, dec_neq, ite_le, ite_nle, ite_lt, ite_nlt, List.length_range]
  · intro j hj
    simp only [e_var, k_val, k_own, e_glb, k_glb, k_cb, e_int, e_str, e_bl, e_non, e_bin, k_bin, j_bin, e_neg, k_neg, e_nt, k_nt, e_and, e_or, and1, and2, and_t, and_f, or1, or2, or_f, or_t, e_cmp, k_cmp, j_cmp, e_chn, k_chn, j_chn, l_chn, l_chf, e_ite, ite_t, ite_f, e_tup, k_tup, j_tup, e_lst, k_lst, j_lst, e_idx, k_idx, j_idx, e_slc, k_slc, j_slc, l_slc, o_nil, o_one, k_o, e_call, k_call, e_bif, k_bif, e_mth, k_mth, j_mth, e_isi, k_isi, e_lc, k_lc, j_lc, k_lce, k_lca_t, k_lca_f, k_lcb, ts_nil, ts_one, k_tb, e_dg, k_dg, e_dn, el_nil, el_cons, k_el, j_el, er_nil, er_cons, k_er, j_er, i_r1, k_r1, i_r2, k_r2, j_r2, i_en, k_enl, k_ent, i_zp, k_zp, j_zp, l_zp_ll, l_zp_tt, l_zp_tl, l_zp_lt, i_it, k_it, j_it, s_nil, s_seq, k_sqn, k_sqr, k_sqb, k_nx, s_asn, s_aso, ea, k_ea_f, k_ea_t, k_as, s_ast, k_ag, s_par, k_pa, j_pa, l_pa, s_aug, k_au, j_aua, j_aus, s_app, k_ap, j_ap, s_sit, k_si, j_si, l_si, s_a2, k_a2, j_a2, l_a2, s_dp, k_dp, j_dp, s_exp, k_ex, s_iff, k_ift, k_iff, s_for, k_fo, k_foe, s_whl, s_ret, k_re, s_retN, s_brk, s_pass, getS_zero, getS_succ, isOwn, putS, dats, c_lt, c_le, c_gt, c_ge, c_is_none, c_is_int, c_is_str, c_is_tup, c_is_lst, c_is_bool, c_isnot_none, c_isnot_int, c_isnot_str, c_isnot_tup, c_isnot_lst, c_isnot_bool, c_in_sgn, c_eq, c_ne, eqOk_str, eqOk_sh, b_add, b_sub, b_mul, b_mod, b_div, b_addl, b_addt, b_rep, l_lst, l_tup, l_str, i_int, x_lst, x_tup, x_str, m_min, it_l, it_t, it_s, t_lst, q_lst, q_tup, bif_len, bif_int, bif_min, bif_max, bif_sum, bif_sorted, bif_all, bif_any, bif_tuple, bif_list, bif_divmod, mth_count, mth_index, mth_join, List.length_cons, List.length_nil, if_true, if_false, Bool.false_eq_true, Bool.or_false, Bool.false_or, Bool.or_self, List.set_cons_zero, List.set_cons_succ, List.map_cons, List.map_nil, frzS, bG_tp, bG_nm, bGs_nil, bGs_cons, ob_some, gd_t, ob_t, at20, at21, eq_self, and_self, and_true, true_and, decide_true, decide_false, Bool.not_true, Bool.not_false, isi_none_int, isi_none_bool, isi_none_str, isi_none_tuple, isi_none_list, isi_bool_int, isi_bool_bool, isi_bool_str, isi_bool_tuple, isi_bool_list, isi_int_int, isi_int_bool, isi_int_str, isi_int_tuple, isi_int_list, isi_str_int, isi_str_bool, isi_str_str, isi_str_tuple, isi_str_list, isi_tuple_int, isi_tuple_bool, isi_tuple_str, isi_tuple_tuple, isi_tuple_list, isi_list_int, isi_list_bool, isi_list_str, isi_list_tuple, isi_list_list, Option.map_some, bif_repr, getS_set, getS_frz, length_frz, List.length_set, List.length_map, line, Nat.reduceAdd, Nat.reduceLT, Nat.reduceLeDiff, Nat.reduceEqDiff, Nat.zero_le, Nat.zero_lt_succ, Int.reduceAdd, Int.reduceSub, Int.reduceLT, Int.reduceLE, Int.reduceToNat, Int.reduceNeg, fit_lit, fit62_lit, Bool.and_self, Bool.and_true, Bool.true_and, Bool.not_eq_true, wipe_len, wipe_nil, getS_wipe, show (b : Int) + (j : Int) = ((b + j : Nat) : Int) by omega, s_nameI h]
theorem s_runD {ps : List Str} {rs : Rs} {l : Fig} {c : Nat} (h : DealOk ps rs l) (hc : (c : Int) ≤ 10 ^ 30) : runF tbl glb wf (n + 4) "run_at" [.dat (dealD ps (full rs l)), .dat (.int (c : Int))] st = .ok (.dat (.tuple [.int ((pl (full rs l) c).1 : Int), .int ((pl (full rs l) c).2 : Int)]), st) := by
  obtain ⟨i, a, o, f, h1, h2, h3, h4, h5, h6, h7, h8⟩ := coinD h.good c
  rw [s_run_at h (by omega) hc, h1, h7]
  simp only [plD]
  rw [show ((a.toNat : Nat) : Int) = a by omega]
end
end Rm

set_option Elab.async false
set_option linter.all false
set_option maxRecDepth 100000
set_option maxHeartbeats 4000000
/-! Rv, mathematics: law k03. -/
namespace Rm
open Rv
open PySem
theorem dealOk {ps : List Str} {rs : Rs} {l : Fig} (hp : People ps) (hr : rs.length ≤ 50) (hl : FigOk ps.length l) (he : ∀ r ∈ rs, FigOk ps.length r.2 ∧ 1 ≤ r.1 ∧ r.1 ≤ 10 ^ 12) : DealOk ps rs l :=
  ⟨hp.names, hp.len.1, by have := hp.len; omega, hr, hl, he⟩
theorem People.nice {ps : List Str} (hp : People ps) : ∀ x, x < ps.length → Ni 0 8 (.str (nm ps x)) := by
  have key : ∀ x : Fin ps.length, (txt (nm ps x.val)).all (fun c => decide (c < 128)) = true ∧ (nm ps x.val).length ≤ 7 := People.all (P := fun ps => ∀ x : Fin ps.length, (txt (nm ps x.val)).all (fun c => decide (c < 128)) = true ∧ (nm ps x.val).length ≤ 7) (by decide +kernel) hp
  exact fun x hx => Ni.str (fun c hc => by simpa using List.all_eq_true.mp (key ⟨x, hx⟩).1 c hc) (key ⟨x, hx⟩).2
theorem range_set (m j : Nat) (g : Nat → Int) (v : Int) : ((List.range m).map fun d => PyData.int (g d)).set j (.int v) = (List.range m).map fun d => PyData.int (if d = j then v else g d) := by
  refine List.ext_getElem? fun k => ?_
  by_cases hk : k < m
  · by_cases e : k = j
    · subst e
      rw [List.getElem?_set_self (by simpa using hk), List.getElem?_map, List.getElem?_range hk]
      simp
    · rw [List.getElem?_set_ne (Ne.symm e), List.getElem?_map, List.getElem?_map, List.getElem?_range hk]
      simp [e]
  · rw [List.getElem?_eq_none (by simpa using Nat.le_of_not_lt hk), List.getElem?_eq_none (by simpa using Nat.le_of_not_lt hk)]
theorem range_at {α : Type} {m j : Nat} (h : j < m) (g : Nat → α) : ((List.range m).map g)[j]? = some (g j) := by
  rw [List.getElem?_map, List.getElem?_range h]
  rfl
theorem atI_range {α : Type} {m j : Nat} (h : j < m) (g : Nat → α) : L2.atI ((List.range m).map g) (j : Int) = some (g j) := atI_of (range_at h g)
theorem idx_ps {ps : List Str} (hd : ps.Nodup) {x : Nat} (h : x < ps.length) : indexD (psD ps) [.str (nm ps x)] = some (.int (x : Int)) := by
  have hx := nm_at h
  have hm : nm ps x ∈ ps := List.mem_of_getElem? hx
  have hi : ps.idxOf (nm ps x) = x := by
    have h1 : ps[x] = nm ps x := (List.getElem?_eq_some_iff.mp hx).2
    rw [← h1]
    exact hd.idxOf_getElem x h
  simp only [psD, indexD, strs_map, Option.bind_some, if_pos hm, hi]
theorem b_rept {i : List PyData} {j : Int} (h1 : 1 ≤ j) (h2 : j ≤ 1000) (h3 : i.length ≤ 1000) (h4 : i ≠ []) : binD .Mult (.tuple i) (.int j) = some (.tuple (List.replicate j.toNat i).flatten) := by
  show (if 1 ≤ j ∧ j ≤ 1000 ∧ i.length ≤ 1000 ∧ i ≠ [] then _ else _) = _
  rw [if_pos ⟨h1, h2, h3, h4⟩]
theorem zeros (m : Nat) : (List.replicate m [PyData.int 0]).flatten = (List.range m).map fun _ => PyData.int 0 := by
  induction m with
  | zero => rfl
  | succ m ih => rw [List.range_succ, List.map_append, ← ih, List.replicate_succ', List.flatten_append]; rfl
section
variable {wf n : Nat} {st : Sto}
theorem s_places {R : List Rn} {size : Nat} (h : Sz R) (hs : size ≤ 100000) : runF tbl glb wf (n + 1) "_law_places" [.dat (rsD R), .dat (.int (size : Int))] st = .ok (.dat (.list ((placesOf R size 0).map fun p => .tuple [.int (p.1 : Int), .int (p.2 : Int)])), st) := by
  have hz : ∀ r ∈ R, ∀ k, r.1 = some k → 0 ≤ k := fun r hr => (h r hr).2.2
  refine run_eq (fn := fn__law_places) rfl rfl (by decide) ?_
  show Ok (evS _ _ _ ir__law_places [_, _, none, none, none, none, none, none] _) _
  simp only [e_var, k_val, k_own, e_glb, k_glb, k_cb, e_int, e_str, e_bl, e_non, e_bin, k_bin, j_bin, e_neg, k_neg, e_nt, k_nt, e_and, e_or, and1, and2, and_t, and_f, or1, or2, or_f, or_t, e_cmp, k_cmp, j_cmp, e_chn, k_chn, j_chn, l_chn, l_chf, e_ite, ite_t, ite_f, e_tup, k_tup, j_tup, e_lst, k_lst, j_lst, e_idx, k_idx, j_idx, e_slc, k_slc, j_slc, l_slc, o_nil, o_one, k_o, e_call, k_call, e_bif, k_bif, e_mth, k_mth, j_mth, e_isi, k_isi, e_lc, k_lc, j_lc, k_lce, k_lca_t, k_lca_f, k_lcb, ts_nil, ts_one, k_tb, e_dg, k_dg, e_dn, el_nil, el_cons, k_el, j_el, er_nil, er_cons, k_er, j_er, i_r1, k_r1, i_r2, k_r2, j_r2, i_en, k_enl, k_ent, i_zp, k_zp, j_zp, l_zp_ll, l_zp_tt, l_zp_tl, l_zp_lt, i_it, k_it, j_it, s_nil, s_seq, k_sqn, k_sqr, k_sqb, k_nx, s_asn, s_aso, ea, k_ea_f, k_ea_t, k_as, s_ast, k_ag, s_par, k_pa, j_pa, l_pa, s_aug, k_au, j_aua, j_aus, s_app, k_ap, j_ap, s_sit, k_si, j_si, l_si, s_a2, k_a2, j_a2, l_a2, s_dp, k_dp, j_dp, s_exp, k_ex, s_iff, k_ift, k_iff, s_for, k_fo, k_foe, s_whl, s_ret, k_re, s_retN, s_brk, s_pass, getS_zero, getS_succ, isOwn, putS, dats, c_lt, c_le, c_gt, c_ge, c_is_none, c_is_int, c_is_str, c_is_tup, c_is_lst, c_is_bool, c_isnot_none, c_isnot_int, c_isnot_str, c_isnot_tup, c_isnot_lst, c_isnot_bool, c_in_sgn, c_eq, c_ne, eqOk_str, eqOk_sh, b_add, b_sub, b_mul, b_mod, b_div, b_addl, b_addt, b_rep, l_lst, l_tup, l_str, i_int, x_lst, x_tup, x_str, m_min, it_l, it_t, it_s, t_lst, q_lst, q_tup, bif_len, bif_int, bif_min, bif_max, bif_sum, bif_sorted, bif_all, bif_any, bif_tuple, bif_list, bif_divmod, mth_count, mth_index, mth_join, List.length_cons, List.length_nil, if_true, if_false, Bool.false_eq_true, Bool.or_false, Bool.false_or, Bool.or_self, List.set_cons_zero, List.set_cons_succ, List.map_cons, List.map_nil, frzS, bG_tp, bG_nm, bGs_nil, bGs_cons, ob_some, gd_t, ob_t, at20, at21, eq_self, and_self, and_true, true_and, decide_true, decide_false, Bool.not_true, Bool.not_false, isi_none_int, isi_none_bool, isi_none_str, isi_none_tuple, isi_none_list, isi_bool_int, isi_bool_bool, isi_bool_str, isi_bool_tuple, isi_bool_list, isi_int_int, isi_int_bool, isi_int_str, isi_int_tuple, isi_int_list, isi_str_int, isi_str_bool, isi_str_str, isi_str_tuple, isi_str_list, isi_tuple_int, isi_tuple_bool, isi_tuple_str, isi_tuple_tuple, isi_tuple_list, isi_list_int, isi_list_bool, isi_list_str, isi_list_tuple, isi_list_list, Option.map_some, bif_repr, getS_set, getS_frz, length_frz, List.length_set, List.length_map, line, Nat.reduceAdd, Nat.reduceLT, Nat.reduceLeDiff, Nat.reduceEqDiff, Nat.zero_le, Nat.zero_lt_succ, Int.reduceAdd, Int.reduceSub, Int.reduceLT, Int.reduceLE, Int.reduceToNat, Int.reduceNeg, fit_lit, fit62_lit, Bool.and_self, Bool.and_true, Bool.true_and, Bool.not_eq_true, wipe_len, wipe_nil, getS_wipe, ir__law_places, rsD]
  refine foT_seq (fun i en' st' => ∃ acc : List (Nat × Nat), en'.length = 8 ∧ getS en' 1 = some (.val (.dat (.int (size : Int)))) ∧ getS en' 2 = some (.val (.dat (.list (acc.map fun p => .tuple [.int (p.1 : Int), .int (p.2 : Int)])))) ∧ st' = st ∧ acc.length ≤ size ∧ acc ++ placesOf (R.drop i) (size - acc.length) i = placesOf R size 0) ⟨[], rfl, rfl, rfl, rfl, Nat.zero_le _, rfl⟩ (fun i x en' st' hx hI => ?_) (fun en' st' hI => ?_)
  · obtain ⟨acc, hL, h1, h2, rfl, hle, hq⟩ := hI
    have hi : i < (R.map rnD).length := by
      have := (List.getElem?_eq_some_iff.mp hx).1
      rwa [enumD_len] at this
    have hx2 := enumD_at 0 _ i _ (List.getElem?_eq_getElem hi)
    rw [hx2] at hx
    cases hx
    rw [List.length_map] at hi
    rw [List.getElem_map, Nat.zero_add]
    rw [List.drop_eq_getElem_cons hi] at hq
    have hrm : R[i] ∈ R := List.getElem_mem hi
    generalize R[i] = r at hq hrm ⊢
    obtain ⟨o, l⟩ := r
    obtain ⟨z1, z2, z3⟩ : l ≠ [] ∧ l.length ≤ 400 ∧ ∀ k, o = some k → 0 ≤ k := h (o, l) hrm
    have esub : (size : Int) - (acc.length : Int) = ((size - acc.length : Nat) : Int) := by omega
    have hp := part_bd (o := o) (c := ((size - acc.length : Nat) : Int)) (by omega) z3
    have fin : ∀ (P : Int) (en2 : En), P = part o ((size - acc.length : Nat) : Int) → en2.length = 8 → getS en2 3 = some (.val (.dat (.int (i : Int)))) →
        lcT (runF tbl glb wf n) glb (.tup (.cons (.var 3) (.cons (.var 7) .nil))) (.nm 7) .nil en2 (upto 0 P.toNat) st' = .ok (((List.range P.toNat).map fun k => (i, k)).map (fun p => .tuple [.int (p.1 : Int), .int (p.2 : Int)]), st') := fun P en2 hP hL2 hg => by
      rw [upto_map, lcT_map (fun a : Nat => .tuple [.int (i : Int), .int (a : Int)])]
      · rw [List.map_map]; rfl
      · intro a ha
        simp only [e_var, k_val, k_own, e_glb, k_glb, k_cb, e_int, e_str, e_bl, e_non, e_bin, k_bin, j_bin, e_neg, k_neg, e_nt, k_nt, e_and, e_or, and1, and2, and_t, and_f, or1, or2, or_f, or_t, e_cmp, k_cmp, j_cmp, e_chn, k_chn, j_chn, l_chn, l_chf, e_ite, ite_t, ite_f, e_tup, k_tup, j_tup, e_lst, k_lst, j_lst, e_idx, k_idx, j_idx, e_slc, k_slc, j_slc, l_slc, o_nil, o_one, k_o, e_call, k_call, e_bif, k_bif, e_mth, k_mth, j_mth, e_isi, k_isi, e_lc, k_lc, j_lc, k_lce, k_lca_t, k_lca_f, k_lcb, ts_nil, ts_one, k_tb, e_dg, k_dg, e_dn, el_nil, el_cons, k_el, j_el, er_nil, er_cons, k_er, j_er, i_r1, k_r1, i_r2, k_r2, j_r2, i_en, k_enl, k_ent, i_zp, k_zp, j_zp, l_zp_ll, l_zp_tt, l_zp_tl, l_zp_lt, i_it, k_it, j_it, s_nil, s_seq, k_sqn, k_sqr, k_sqb, k_nx, s_asn, s_aso, ea, k_ea_f, k_ea_t, k_as, s_ast, k_ag, s_par, k_pa, j_pa, l_pa, s_aug, k_au, j_aua, j_aus, s_app, k_ap, j_ap, s_sit, k_si, j_si, l_si, s_a2, k_a2, j_a2, l_a2, s_dp, k_dp, j_dp, s_exp, k_ex, s_iff, k_ift, k_iff, s_for, k_fo, k_foe, s_whl, s_ret, k_re, s_retN, s_brk, s_pass, getS_zero, getS_succ, isOwn, putS, dats, c_lt, c_le, c_gt, c_ge, c_is_none, c_is_int, c_is_str, c_is_tup, c_is_lst, c_is_bool, c_isnot_none, c_isnot_int, c_isnot_str, c_isnot_tup, c_isnot_lst, c_isnot_bool, c_in_sgn, c_eq, c_ne, eqOk_str, eqOk_sh, b_add, b_sub, b_mul, b_mod, b_div, b_addl, b_addt, b_rep, l_lst, l_tup, l_str, i_int, x_lst, x_tup, x_str, m_min, it_l, it_t, it_s, t_lst, q_lst, q_tup, bif_len, bif_int, bif_min, bif_max, bif_sum, bif_sorted, bif_all, bif_any, bif_tuple, bif_list, bif_divmod, mth_count, mth_index, mth_join, List.length_cons, List.length_nil, if_true, if_false, Bool.false_eq_true, Bool.or_false, Bool.false_or, Bool.or_self, List.set_cons_zero, List.set_cons_succ, List.map_cons, List.map_nil, frzS, bG_tp, bG_nm, bGs_nil, bGs_cons, ob_some, gd_t, ob_t, at20, at21, eq_self, and_self, and_true, true_and, decide_true, decide_false, Bool.not_true, Bool.not_false, isi_none_int, isi_none_bool, isi_none_str, isi_none_tuple, isi_none_list, isi_bool_int, isi_bool_bool, isi_bool_str, isi_bool_tuple, isi_bool_list, isi_int_int, isi_int_bool, isi_int_str, isi_int_tuple, isi_int_list, isi_str_int, isi_str_bool, isi_str_str, isi_str_tuple, isi_str_list, isi_tuple_int, isi_tuple_bool, isi_tuple_str, isi_tuple_tuple, isi_tuple_list, isi_list_int, isi_list_bool, isi_list_str, isi_list_tuple, isi_list_list, Option.map_some, bif_repr, getS_set, getS_frz, length_frz, List.length_set, List.length_map, line, Nat.reduceAdd, Nat.reduceLT, Nat.reduceLeDiff, Nat.reduceEqDiff, Nat.zero_le, Nat.zero_lt_succ, Int.reduceAdd, Int.reduceSub, Int.reduceLT, Int.reduceLE, Int.reduceToNat, Int.reduceNeg, fit_lit, fit62_lit, Bool.and_self, Bool.and_true, Bool.true_and, Bool.not_eq_true, wipe_len, wipe_nil, getS_wipe, hL2, hg]
    have hP : (part o ((size - acc.length : Nat) : Int)).toNat ≤ size - acc.length := part_le z3
    have done : ∀ en2 : En, en2.length = 8 → getS en2 1 = some (.val (.dat (.int (size : Int)))) → getS en2 2 = some (.val (.dat (.list ((acc.map fun p => .tuple [.int (p.1 : Int), .int (p.2 : Int)]) ++ (((List.range (part o ((size - acc.length : Nat) : Int)).toNat).map fun k => (i, k)).map fun p => .tuple [.int (p.1 : Int), .int (p.2 : Int)]))))) → Ok (Res.ok (Out.next en2 st')) (fun ou => ∃ en' st'', ou = .next en' st'' ∧ ∃ acc : List (Nat × Nat), en'.length = 8 ∧ getS en' 1 = some (.val (.dat (.int (size : Int)))) ∧ getS en' 2 = some (.val (.dat (.list (acc.map fun p => .tuple [.int (p.1 : Int), .int (p.2 : Int)])))) ∧ st'' = st' ∧ acc.length ≤ size ∧ acc ++ placesOf (R.drop (i + 1)) (size - acc.length) (i + 1) = placesOf R size 0) := fun en2 a1 a2 a3 => by
      refine ⟨_, rfl, _, _, rfl, acc ++ (List.range (part o ((size - acc.length : Nat) : Int)).toNat).map (fun k => (i, k)), a1, a2, by rw [a3, List.map_append], rfl, by rw [List.length_append, List.length_map, List.length_range]; omega, ?_⟩
      rw [← hq, List.append_assoc, List.length_append, List.length_map, List.length_range, placesOf, Nat.sub_add_eq]
    cases o with
    | none =>
      simp only [e_var, k_val, k_own, e_glb, k_glb, k_cb, e_int, e_str, e_bl, e_non, e_bin, k_bin, j_bin, e_neg, k_neg, e_nt, k_nt, e_and, e_or, and1, and2, and_t, and_f, or1, or2, or_f, or_t, e_cmp, k_cmp, j_cmp, e_chn, k_chn, j_chn, l_chn, l_chf, e_ite, ite_t, ite_f, e_tup, k_tup, j_tup, e_lst, k_lst, j_lst, e_idx, k_idx, j_idx, e_slc, k_slc, j_slc, l_slc, o_nil, o_one, k_o, e_call, k_call, e_bif, k_bif, e_mth, k_mth, j_mth, e_isi, k_isi, e_lc, k_lc, j_lc, k_lce, k_lca_t, k_lca_f, k_lcb, ts_nil, ts_one, k_tb, e_dg, k_dg, e_dn, el_nil, el_cons, k_el, j_el, er_nil, er_cons, k_er, j_er, i_r1, k_r1, i_r2, k_r2, j_r2, i_en, k_enl, k_ent, i_zp, k_zp, j_zp, l_zp_ll, l_zp_tt, l_zp_tl, l_zp_lt, i_it, k_it, j_it, s_nil, s_seq, k_sqn, k_sqr, k_sqb, k_nx, s_asn, s_aso, ea, k_ea_f, k_ea_t, k_as, s_ast, k_ag, s_par, k_pa, j_pa, l_pa, s_aug, k_au, j_aua, j_aus, s_app, k_ap, j_ap, s_sit, k_si, j_si, l_si, s_a2, k_a2, j_a2, l_a2, s_dp, k_dp, j_dp, s_exp, k_ex, s_iff, k_ift, k_iff, s_for, k_fo, k_foe, s_whl, s_ret, k_re, s_retN, s_brk, s_pass, getS_zero, getS_succ, isOwn, putS, dats, c_lt, c_le, c_gt, c_ge, c_is_none, c_is_int, c_is_str, c_is_tup, c_is_lst, c_is_bool, c_isnot_none, c_isnot_int, c_isnot_str, c_isnot_tup, c_isnot_lst, c_isnot_bool, c_in_sgn, c_eq, c_ne, eqOk_str, eqOk_sh, b_add, b_sub, b_mul, b_mod, b_div, b_addl, b_addt, b_rep, l_lst, l_tup, l_str, i_int, x_lst, x_tup, x_str, m_min, it_l, it_t, it_s, t_lst, q_lst, q_tup, bif_len, bif_int, bif_min, bif_max, bif_sum, bif_sorted, bif_all, bif_any, bif_tuple, bif_list, bif_divmod, mth_count, mth_index, mth_join, List.length_cons, List.length_nil, if_true, if_false, Bool.false_eq_true, Bool.or_false, Bool.false_or, Bool.or_self, List.set_cons_zero, List.set_cons_succ, List.map_cons, List.map_nil, frzS, bG_tp, bG_nm, bGs_nil, bGs_cons, ob_some, gd_t, ob_t, at20, at21, eq_self, and_self, and_true, true_and, decide_true, decide_false, Bool.not_true, Bool.not_false, isi_none_int, isi_none_bool, isi_none_str, isi_none_tuple, isi_none_list, isi_bool_int, isi_bool_bool, isi_bool_str, isi_bool_tuple, isi_bool_list, isi_int_int, isi_int_bool, isi_int_str, isi_int_tuple, isi_int_list, isi_str_int, isi_str_bool, isi_str_str, isi_str_tuple, isi_str_list, isi_tuple_int, isi_tuple_bool, isi_tuple_str, isi_tuple_tuple, isi_tuple_list, isi_list_int, isi_list_bool, isi_list_str, isi_list_tuple, isi_list_list, Option.map_some, bif_repr, getS_set, getS_frz, length_frz, List.length_set, List.length_map, line, Nat.reduceAdd, Nat.reduceLT, Nat.reduceLeDiff, Nat.reduceEqDiff, Nat.zero_le, Nat.zero_lt_succ, Int.reduceAdd, Int.reduceSub, Int.reduceLT, Int.reduceLE, Int.reduceToNat, Int.reduceNeg, fit_lit, fit62_lit, Bool.and_self, Bool.and_true, Bool.true_and, Bool.not_eq_true, wipe_len, wipe_nil, getS_wipe, rnD_none, hL, h1, h2, esub, show fit62 ((size - acc.length : Nat) : Int) = true from fit62_nat (by omega)]
      rw [fin _ _ (rfl : ((size - acc.length : Nat) : Int) = part none ((size - acc.length : Nat) : Int)) (by simp only [e_var, k_val, k_own, e_glb, k_glb, k_cb, e_int, e_str, e_bl, e_non, e_bin, k_bin, j_bin, e_neg, k_neg, e_nt, k_nt, e_and, e_or, and1, and2, and_t, and_f, or1, or2, or_f, or_t, e_cmp, k_cmp, j_cmp, e_chn, k_chn, j_chn, l_chn, l_chf, e_ite, ite_t, ite_f, e_tup, k_tup, j_tup, e_lst, k_lst, j_lst, e_idx, k_idx, j_idx, e_slc, k_slc, j_slc, l_slc, o_nil, o_one, k_o, e_call, k_call, e_bif, k_bif, e_mth, k_mth, j_mth, e_isi, k_isi, e_lc, k_lc, j_lc, k_lce, k_lca_t, k_lca_f, k_lcb, ts_nil, ts_one, k_tb, e_dg, k_dg, e_dn, el_nil, el_cons, k_el, j_el, er_nil, er_cons, k_er, j_er, i_r1, k_r1, i_r2, k_r2, j_r2, i_en, k_enl, k_ent, i_zp, k_zp, j_zp, l_zp_ll, l_zp_tt, l_zp_tl, l_zp_lt, i_it, k_it, j_it, s_nil, s_seq, k_sqn, k_sqr, k_sqb, k_nx, s_asn, s_aso, ea, k_ea_f, k_ea_t, k_as, s_ast, k_ag, s_par, k_pa, j_pa, l_pa, s_aug, k_au, j_aua, j_aus, s_app, k_ap, j_ap, s_sit, k_si, j_si, l_si, s_a2, k_a2, j_a2, l_a2, s_dp, k_dp, j_dp, s_exp, k_ex, s_iff, k_ift, k_iff, s_for, k_fo, k_foe, s_whl, s_ret, k_re, s_retN, s_brk, s_pass, getS_zero, getS_succ, isOwn, putS, dats, c_lt, c_le, c_gt, c_ge, c_is_none, c_is_int, c_is_str, c_is_tup, c_is_lst, c_is_bool, c_isnot_none, c_isnot_int, c_isnot_str, c_isnot_tup, c_isnot_lst, c_isnot_bool, c_in_sgn, c_eq, c_ne, eqOk_str, eqOk_sh, b_add, b_sub, b_mul, b_mod, b_div, b_addl, b_addt, b_rep, l_lst, l_tup, l_str, i_int, x_lst, x_tup, x_str, m_min, it_l, it_t, it_s, t_lst, q_lst, q_tup, bif_len, bif_int, bif_min, bif_max, bif_sum, bif_sorted, bif_all, bif_any, bif_tuple, bif_list, bif_divmod, mth_count, mth_index, mth_join, List.length_cons, List.length_nil, if_true, if_false, Bool.false_eq_true, Bool.or_false, Bool.false_or, Bool.or_self, List.set_cons_zero, List.set_cons_succ, List.map_cons, List.map_nil, frzS, bG_tp, bG_nm, bGs_nil, bGs_cons, ob_some, gd_t, ob_t, at20, at21, eq_self, and_self, and_true, true_and, decide_true, decide_false, Bool.not_true, Bool.not_false, isi_none_int, isi_none_bool, isi_none_str, isi_none_tuple, isi_none_list, isi_bool_int, isi_bool_bool, isi_bool_str, isi_bool_tuple, isi_bool_list, isi_int_int, isi_int_bool, isi_int_str, isi_int_tuple, isi_int_list, isi_str_int, isi_str_bool, isi_str_str, isi_str_tuple, isi_str_list, isi_tuple_int, isi_tuple_bool, isi_tuple_str, isi_tuple_tuple, isi_tuple_list, isi_list_int, isi_list_bool, isi_list_str, isi_list_tuple, isi_list_list, Option.map_some, bif_repr, getS_set, getS_frz, length_frz, List.length_set, List.length_map, line, Nat.reduceAdd, Nat.reduceLT, Nat.reduceLeDiff, Nat.reduceEqDiff, Nat.zero_le, Nat.zero_lt_succ, Int.reduceAdd, Int.reduceSub, Int.reduceLT, Int.reduceLE, Int.reduceToNat, Int.reduceNeg, fit_lit, fit62_lit, Bool.and_self, Bool.and_true, Bool.true_and, Bool.not_eq_true, wipe_len, wipe_nil, getS_wipe, hL]) (by simp only [e_var, k_val, k_own, e_glb, k_glb, k_cb, e_int, e_str, e_bl, e_non, e_bin, k_bin, j_bin, e_neg, k_neg, e_nt, k_nt, e_and, e_or, and1, and2, and_t, and_f, or1, or2, or_f, or_t, e_cmp, k_cmp, j_cmp, e_chn, k_chn, j_chn, l_chn, l_chf, e_ite, ite_t, ite_f, e_tup, k_tup, j_tup, e_lst, k_lst, j_lst, e_idx, k_idx, j_idx, e_slc, k_slc, j_slc, l_slc, o_nil, o_one, k_o, e_call, k_call, e_bif, k_bif, e_mth, k_mth, j_mth, e_isi, k_isi, e_lc, k_lc, j_lc, k_lce, k_lca_t, k_lca_f, k_lcb, ts_nil, ts_one, k_tb, e_dg, k_dg, e_dn, el_nil, el_cons, k_el, j_el, er_nil, er_cons, k_er, j_er, i_r1, k_r1, i_r2, k_r2, j_r2, i_en, k_enl, k_ent, i_zp, k_zp, j_zp, l_zp_ll, l_zp_tt, l_zp_tl, l_zp_lt, i_it, k_it, j_it, s_nil, s_seq, k_sqn, k_sqr, k_sqb, k_nx, s_asn, s_aso, ea, k_ea_f, k_ea_t, k_as, s_ast, k_ag, s_par, k_pa, j_pa, l_pa, s_aug, k_au, j_aua, j_aus, s_app, k_ap, j_ap, s_sit, k_si, j_si, l_si, s_a2, k_a2, j_a2, l_a2, s_dp, k_dp, j_dp, s_exp, k_ex, s_iff, k_ift, k_iff, s_for, k_fo, k_foe, s_whl, s_ret, k_re, s_retN, s_brk, s_pass, getS_zero, getS_succ, isOwn, putS, dats, c_lt, c_le, c_gt, c_ge, c_is_none, c_is_int, c_is_str, c_is_tup, c_is_lst, c_is_bool, c_isnot_none, c_isnot_int, c_isnot_str, c_isnot_tup, c_isnot_lst, c_isnot_bool, c_in_sgn, c_eq, c_ne, eqOk_str, eqOk_sh, b_add, b_sub, b_mul, b_mod, b_div, b_addl, b_addt, b_rep, l_lst, l_tup, l_str, i_int, x_lst, x_tup, x_str, m_min, it_l, it_t, it_s, t_lst, q_lst, q_tup, bif_len, bif_int, bif_min, bif_max, bif_sum, bif_sorted, bif_all, bif_any, bif_tuple, bif_list, bif_divmod, mth_count, mth_index, mth_join, List.length_cons, List.length_nil, if_true, if_false, Bool.false_eq_true, Bool.or_false, Bool.false_or, Bool.or_self, List.set_cons_zero, List.set_cons_succ, List.map_cons, List.map_nil, frzS, bG_tp, bG_nm, bGs_nil, bGs_cons, ob_some, gd_t, ob_t, at20, at21, eq_self, and_self, and_true, true_and, decide_true, decide_false, Bool.not_true, Bool.not_false, isi_none_int, isi_none_bool, isi_none_str, isi_none_tuple, isi_none_list, isi_bool_int, isi_bool_bool, isi_bool_str, isi_bool_tuple, isi_bool_list, isi_int_int, isi_int_bool, isi_int_str, isi_int_tuple, isi_int_list, isi_str_int, isi_str_bool, isi_str_str, isi_str_tuple, isi_str_list, isi_tuple_int, isi_tuple_bool, isi_tuple_str, isi_tuple_tuple, isi_tuple_list, isi_list_int, isi_list_bool, isi_list_str, isi_list_tuple, isi_list_list, Option.map_some, bif_repr, getS_set, getS_frz, length_frz, List.length_set, List.length_map, line, Nat.reduceAdd, Nat.reduceLT, Nat.reduceLeDiff, Nat.reduceEqDiff, Nat.zero_le, Nat.zero_lt_succ, Int.reduceAdd, Int.reduceSub, Int.reduceLT, Int.reduceLE, Int.reduceToNat, Int.reduceNeg, fit_lit, fit62_lit, Bool.and_self, Bool.and_true, Bool.true_and, Bool.not_eq_true, wipe_len, wipe_nil, getS_wipe, hL])]
      simp (disch := first | assumption | omega) only [e_var, k_val, k_own, e_glb, k_glb, k_cb, e_int, e_str, e_bl, e_non, e_bin, k_bin, j_bin, e_neg, k_neg, e_nt, k_nt, e_and, e_or, and1, and2, and_t, and_f, or1, or2, or_f, or_t, e_cmp, k_cmp, j_cmp, e_chn, k_chn, j_chn, l_chn, l_chf, e_ite, ite_t, ite_f, e_tup, k_tup, j_tup, e_lst, k_lst, j_lst, e_idx, k_idx, j_idx, e_slc, k_slc, j_slc, l_slc, o_nil, o_one, k_o, e_call, k_call, e_bif, k_bif, e_mth, k_mth, j_mth, e_isi, k_isi, e_lc, k_lc, j_lc, k_lce, k_lca_t, k_lca_f, k_lcb, ts_nil, ts_one, k_tb, e_dg, k_dg, e_dn, el_nil, el_cons, k_el, j_el, er_nil, er_cons, k_er, j_er, i_r1, k_r1, i_r2, k_r2, j_r2, i_en, k_enl, k_ent, i_zp, k_zp, j_zp, l_zp_ll, l_zp_tt, l_zp_tl, l_zp_lt, i_it, k_it, j_it, s_nil, s_seq, k_sqn, k_sqr, k_sqb, k_nx, s_asn, s_aso, ea, k_ea_f, k_ea_t, k_as, s_ast, k_ag, s_par, k_pa, j_pa, l_pa, s_aug, k_au, j_aua, j_aus, s_app, k_ap, j_ap, s_sit, k_si, j_si, l_si, s_a2, k_a2, j_a2, l_a2, s_dp, k_dp, j_dp, s_exp, k_ex, s_iff, k_ift, k_iff, s_for, k_fo, k_foe, s_whl, s_ret, k_re, s_retN, s_brk, s_pass, getS_zero, getS_succ, isOwn, putS, dats, c_lt, c_le, c_gt, c_ge, c_is_none, c_is_int, c_is_str, c_is_tup, c_is_lst, c_is_bool, c_isnot_none, c_isnot_int, c_isnot_str, c_isnot_tup, c_isnot_lst, c_isnot_bool, c_in_sgn, c_eq, c_ne, eqOk_str, eqOk_sh, b_add, b_sub, b_mul, b_mod, b_div, b_addl, b_addt, b_rep, l_lst, l_tup, l_str, i_int, x_lst, x_tup, x_str, m_min, it_l, it_t, it_s, t_lst, q_lst, q_tup, bif_len, bif_int, bif_min, bif_max, bif_sum, bif_sorted, bif_all, bif_any, bif_tuple, bif_list, bif_divmod, mth_count, mth_index, mth_join, List.length_cons, List.length_nil, if_true, if_false, Bool.false_eq_true, Bool.or_false, Bool.false_or, Bool.or_self, List.set_cons_zero, List.set_cons_succ, List.map_cons, List.map_nil, frzS, bG_tp, bG_nm, bGs_nil, bGs_cons, ob_some, gd_t, ob_t, at20, at21, eq_self, and_self, and_true, true_and, decide_true, decide_false, Bool.not_true, Bool.not_false, isi_none_int, isi_none_bool, isi_none_str, isi_none_tuple, isi_none_list, isi_bool_int, isi_bool_bool, isi_bool_str, isi_bool_tuple, isi_bool_list, isi_int_int, isi_int_bool, isi_int_str, isi_int_tuple, isi_int_list, isi_str_int, isi_str_bool, isi_str_str, isi_str_tuple, isi_str_list, isi_tuple_int, isi_tuple_bool, isi_tuple_str, isi_tuple_tuple, isi_tuple_list, isi_list_int, isi_list_bool, isi_list_str, isi_list_tuple, isi_list_list, Option.map_some, bif_repr, getS_set, getS_frz, length_frz, List.length_set, List.length_map, line, Nat.reduceAdd, Nat.reduceLT, Nat.reduceLeDiff, Nat.reduceEqDiff, Nat.zero_le, Nat.zero_lt_succ, Int.reduceAdd, Int.reduceSub, Int.reduceLT, Int.reduceLE, Int.reduceToNat, Int.reduceNeg, fit_lit, fit62_lit, Bool.and_self, Bool.and_true, Bool.true_and, Bool.not_eq_true, wipe_len, wipe_nil, getS_wipe, ite_line, ite_ltline, fit62_of, fitI_of, mod_pos, ite_and, dec_le, dec_nle, dec_lt, dec_nlt, dec_eq, dec_neq, ite_le, ite_nle, ite_lt, ite_nlt, hL, List.length_range]
      refine done _ ?_ ?_ ?_
      · simp only [e_var, k_val, k_own, e_glb, k_glb, k_cb, e_int, e_str, e_bl, e_non, e_bin, k_bin, j_bin, e_neg, k_neg, e_nt, k_nt, e_and, e_or, and1, and2, and_t, and_f, or1, or2, or_f, or_t, e_cmp, k_cmp, j_cmp, e_chn, k_chn, j_chn, l_chn, l_chf, e_ite, ite_t, ite_f, e_tup, k_tup, j_tup, e_lst, k_lst, j_lst, e_idx, k_idx, j_idx, e_slc, k_slc, j_slc, l_slc, o_nil, o_one, k_o, e_call, k_call, e_bif, k_bif, e_mth, k_mth, j_mth, e_isi, k_isi, e_lc, k_lc, j_lc, k_lce, k_lca_t, k_lca_f, k_lcb, ts_nil, ts_one, k_tb, e_dg, k_dg, e_dn, el_nil, el_cons, k_el, j_el, er_nil, er_cons, k_er, j_er, i_r1, k_r1, i_r2, k_r2, j_r2, i_en, k_enl, k_ent, i_zp, k_zp, j_zp, l_zp_ll, l_zp_tt, l_zp_tl, l_zp_lt, i_it, k_it, j_it, s_nil, s_seq, k_sqn, k_sqr, k_sqb, k_nx, s_asn, s_aso, ea, k_ea_f, k_ea_t, k_as, s_ast, k_ag, s_par, k_pa, j_pa, l_pa, s_aug, k_au, j_aua, j_aus, s_app, k_ap, j_ap, s_sit, k_si, j_si, l_si, s_a2, k_a2, j_a2, l_a2, s_dp, k_dp, j_dp, s_exp, k_ex, s_iff, k_ift, k_iff, s_for, k_fo, k_foe, s_whl, s_ret, k_re, s_retN, s_brk, s_pass, getS_zero, getS_succ, isOwn, putS, dats, c_lt, c_le, c_gt, c_ge, c_is_none, c_is_int, c_is_str, c_is_tup, c_is_lst, c_is_bool, c_isnot_none, c_isnot_int, c_isnot_str, c_isnot_tup, c_isnot_lst, c_isnot_bool, c_in_sgn, c_eq, c_ne, eqOk_str, eqOk_sh, b_add, b_sub, b_mul, b_mod, b_div, b_addl, b_addt, b_rep, l_lst, l_tup, l_str, i_int, x_lst, x_tup, x_str, m_min, it_l, it_t, it_s, t_lst, q_lst, q_tup, bif_len, bif_int, bif_min, bif_max, bif_sum, bif_sorted, bif_all, bif_any, bif_tuple, bif_list, bif_divmod, mth_count, mth_index, mth_join, List.length_cons, List.length_nil, if_true, if_false, Bool.false_eq_true, Bool.or_false, Bool.false_or, Bool.or_self, List.set_cons_zero, List.set_cons_succ, List.map_cons, List.map_nil, frzS, bG_tp, bG_nm, bGs_nil, bGs_cons, ob_some, gd_t, ob_t, at20, at21, eq_self, and_self, and_true, true_and, decide_true, decide_false, Bool.not_true, Bool.not_false, isi_none_int, isi_none_bool, isi_none_str, isi_none_tuple, isi_none_list, isi_bool_int, isi_bool_bool, isi_bool_str, isi_bool_tuple, isi_bool_list, isi_int_int, isi_int_bool, isi_int_str, isi_int_tuple, isi_int_list, isi_str_int, isi_str_bool, isi_str_str, isi_str_tuple, isi_str_list, isi_tuple_int, isi_tuple_bool, isi_tuple_str, isi_tuple_tuple, isi_tuple_list, isi_list_int, isi_list_bool, isi_list_str, isi_list_tuple, isi_list_list, Option.map_some, bif_repr, getS_set, getS_frz, length_frz, List.length_set, List.length_map, line, Nat.reduceAdd, Nat.reduceLT, Nat.reduceLeDiff, Nat.reduceEqDiff, Nat.zero_le, Nat.zero_lt_succ, Int.reduceAdd, Int.reduceSub, Int.reduceLT, Int.reduceLE, Int.reduceToNat, Int.reduceNeg, fit_lit, fit62_lit, Bool.and_self, Bool.and_true, Bool.true_and, Bool.not_eq_true, wipe_len, wipe_nil, getS_wipe, hL]
      · simp only [e_var, k_val, k_own, e_glb, k_glb, k_cb, e_int, e_str, e_bl, e_non, e_bin, k_bin, j_bin, e_neg, k_neg, e_nt, k_nt, e_and, e_or, and1, and2, and_t, and_f, or1, or2, or_f, or_t, e_cmp, k_cmp, j_cmp, e_chn, k_chn, j_chn, l_chn, l_chf, e_ite, ite_t, ite_f, e_tup, k_tup, j_tup, e_lst, k_lst, j_lst, e_idx, k_idx, j_idx, e_slc, k_slc, j_slc, l_slc, o_nil, o_one, k_o, e_call, k_call, e_bif, k_bif, e_mth, k_mth, j_mth, e_isi, k_isi, e_lc, k_lc, j_lc, k_lce, k_lca_t, k_lca_f, k_lcb, ts_nil, ts_one, k_tb, e_dg, k_dg, e_dn, el_nil, el_cons, k_el, j_el, er_nil, er_cons, k_er, j_er, i_r1, k_r1, i_r2, k_r2, j_r2, i_en, k_enl, k_ent, i_zp, k_zp, j_zp, l_zp_ll, l_zp_tt, l_zp_tl, l_zp_lt, i_it, k_it, j_it, s_nil, s_seq, k_sqn, k_sqr, k_sqb, k_nx, s_asn, s_aso, ea, k_ea_f, k_ea_t, k_as, s_ast, k_ag, s_par, k_pa, j_pa, l_pa, s_aug, k_au, j_aua, j_aus, s_app, k_ap, j_ap, s_sit, k_si, j_si, l_si, s_a2, k_a2, j_a2, l_a2, s_dp, k_dp, j_dp, s_exp, k_ex, s_iff, k_ift, k_iff, s_for, k_fo, k_foe, s_whl, s_ret, k_re, s_retN, s_brk, s_pass, getS_zero, getS_succ, isOwn, putS, dats, c_lt, c_le, c_gt, c_ge, c_is_none, c_is_int, c_is_str, c_is_tup, c_is_lst, c_is_bool, c_isnot_none, c_isnot_int, c_isnot_str, c_isnot_tup, c_isnot_lst, c_isnot_bool, c_in_sgn, c_eq, c_ne, eqOk_str, eqOk_sh, b_add, b_sub, b_mul, b_mod, b_div, b_addl, b_addt, b_rep, l_lst, l_tup, l_str, i_int, x_lst, x_tup, x_str, m_min, it_l, it_t, it_s, t_lst, q_lst, q_tup, bif_len, bif_int, bif_min, bif_max, bif_sum, bif_sorted, bif_all, bif_any, bif_tuple, bif_list, bif_divmod, mth_count, mth_index, mth_join, List.length_cons, List.length_nil, if_true, if_false, Bool.false_eq_true, Bool.or_false, Bool.false_or, Bool.or_self, List.set_cons_zero, List.set_cons_succ, List.map_cons, List.map_nil, frzS, bG_tp, bG_nm, bGs_nil, bGs_cons, ob_some, gd_t, ob_t, at20, at21, eq_self, and_self, and_true, true_and, decide_true, decide_false, Bool.not_true, Bool.not_false, isi_none_int, isi_none_bool, isi_none_str, isi_none_tuple, isi_none_list, isi_bool_int, isi_bool_bool, isi_bool_str, isi_bool_tuple, isi_bool_list, isi_int_int, isi_int_bool, isi_int_str, isi_int_tuple, isi_int_list, isi_str_int, isi_str_bool, isi_str_str, isi_str_tuple, isi_str_list, isi_tuple_int, isi_tuple_bool, isi_tuple_str, isi_tuple_tuple, isi_tuple_list, isi_list_int, isi_list_bool, isi_list_str, isi_list_tuple, isi_list_list, Option.map_some, bif_repr, getS_set, getS_frz, length_frz, List.length_set, List.length_map, line, Nat.reduceAdd, Nat.reduceLT, Nat.reduceLeDiff, Nat.reduceEqDiff, Nat.zero_le, Nat.zero_lt_succ, Int.reduceAdd, Int.reduceSub, Int.reduceLT, Int.reduceLE, Int.reduceToNat, Int.reduceNeg, fit_lit, fit62_lit, Bool.and_self, Bool.and_true, Bool.true_and, Bool.not_eq_true, wipe_len, wipe_nil, getS_wipe, hL, h1]
      · simp only [e_var, k_val, k_own, e_glb, k_glb, k_cb, e_int, e_str, e_bl, e_non, e_bin, k_bin, j_bin, e_neg, k_neg, e_nt, k_nt, e_and, e_or, and1, and2, and_t, and_f, or1, or2, or_f, or_t, e_cmp, k_cmp, j_cmp, e_chn, k_chn, j_chn, l_chn, l_chf, e_ite, ite_t, ite_f, e_tup, k_tup, j_tup, e_lst, k_lst, j_lst, e_idx, k_idx, j_idx, e_slc, k_slc, j_slc, l_slc, o_nil, o_one, k_o, e_call, k_call, e_bif, k_bif, e_mth, k_mth, j_mth, e_isi, k_isi, e_lc, k_lc, j_lc, k_lce, k_lca_t, k_lca_f, k_lcb, ts_nil, ts_one, k_tb, e_dg, k_dg, e_dn, el_nil, el_cons, k_el, j_el, er_nil, er_cons, k_er, j_er, i_r1, k_r1, i_r2, k_r2, j_r2, i_en, k_enl, k_ent, i_zp, k_zp, j_zp, l_zp_ll, l_zp_tt, l_zp_tl, l_zp_lt, i_it, k_it, j_it, s_nil, s_seq, k_sqn, k_sqr, k_sqb, k_nx, s_asn, s_aso, ea, k_ea_f, k_ea_t, k_as, s_ast, k_ag, s_par, k_pa, j_pa, l_pa, s_aug, k_au, j_aua, j_aus, s_app, k_ap, j_ap, s_sit, k_si, j_si, l_si, s_a2, k_a2, j_a2, l_a2, s_dp, k_dp, j_dp, s_exp, k_ex, s_iff, k_ift, k_iff, s_for, k_fo, k_foe, s_whl, s_ret, k_re, s_retN, s_brk, s_pass, getS_zero, getS_succ, isOwn, putS, dats, c_lt, c_le, c_gt, c_ge, c_is_none, c_is_int, c_is_str, c_is_tup, c_is_lst, c_is_bool, c_isnot_none, c_isnot_int, c_isnot_str, c_isnot_tup, c_isnot_lst, c_isnot_bool, c_in_sgn, c_eq, c_ne, eqOk_str, eqOk_sh, b_add, b_sub, b_mul, b_mod, b_div, b_addl, b_addt, b_rep, l_lst, l_tup, l_str, i_int, x_lst, x_tup, x_str, m_min, it_l, it_t, it_s, t_lst, q_lst, q_tup, bif_len, bif_int, bif_min, bif_max, bif_sum, bif_sorted, bif_all, bif_any, bif_tuple, bif_list, bif_divmod, mth_count, mth_index, mth_join, List.length_cons, List.length_nil, if_true, if_false, Bool.false_eq_true, Bool.or_false, Bool.false_or, Bool.or_self, List.set_cons_zero, List.set_cons_succ, List.map_cons, List.map_nil, frzS, bG_tp, bG_nm, bGs_nil, bGs_cons, ob_some, gd_t, ob_t, at20, at21, eq_self, and_self, and_true, true_and, decide_true, decide_false, Bool.not_true, Bool.not_false, isi_none_int, isi_none_bool, isi_none_str, isi_none_tuple, isi_none_list, isi_bool_int, isi_bool_bool, isi_bool_str, isi_bool_tuple, isi_bool_list, isi_int_int, isi_int_bool, isi_int_str, isi_int_tuple, isi_int_list, isi_str_int, isi_str_bool, isi_str_str, isi_str_tuple, isi_str_list, isi_tuple_int, isi_tuple_bool, isi_tuple_str, isi_tuple_tuple, isi_tuple_list, isi_list_int, isi_list_bool, isi_list_str, isi_list_tuple, isi_list_list, Option.map_some, bif_repr, getS_set, getS_frz, length_frz, List.length_set, List.length_map, line, Nat.reduceAdd, Nat.reduceLT, Nat.reduceLeDiff, Nat.reduceEqDiff, Nat.zero_le, Nat.zero_lt_succ, Int.reduceAdd, Int.reduceSub, Int.reduceLT, Int.reduceLE, Int.reduceToNat, Int.reduceNeg, fit_lit, fit62_lit, Bool.and_self, Bool.and_true, Bool.true_and, Bool.not_eq_true, wipe_len, wipe_nil, getS_wipe, hL]; rfl
    | some k =>
      have ek : (if ((size - acc.length : Nat) : Int) < k then ((size - acc.length : Nat) : Int) else k) = part (some k) ((size - acc.length : Nat) : Int) := by
        simp only [part]
        split <;> split <;> omega
      simp only [e_var, k_val, k_own, e_glb, k_glb, k_cb, e_int, e_str, e_bl, e_non, e_bin, k_bin, j_bin, e_neg, k_neg, e_nt, k_nt, e_and, e_or, and1, and2, and_t, and_f, or1, or2, or_f, or_t, e_cmp, k_cmp, j_cmp, e_chn, k_chn, j_chn, l_chn, l_chf, e_ite, ite_t, ite_f, e_tup, k_tup, j_tup, e_lst, k_lst, j_lst, e_idx, k_idx, j_idx, e_slc, k_slc, j_slc, l_slc, o_nil, o_one, k_o, e_call, k_call, e_bif, k_bif, e_mth, k_mth, j_mth, e_isi, k_isi, e_lc, k_lc, j_lc, k_lce, k_lca_t, k_lca_f, k_lcb, ts_nil, ts_one, k_tb, e_dg, k_dg, e_dn, el_nil, el_cons, k_el, j_el, er_nil, er_cons, k_er, j_er, i_r1, k_r1, i_r2, k_r2, j_r2, i_en, k_enl, k_ent, i_zp, k_zp, j_zp, l_zp_ll, l_zp_tt, l_zp_tl, l_zp_lt, i_it, k_it, j_it, s_nil, s_seq, k_sqn, k_sqr, k_sqb, k_nx, s_asn, s_aso, ea, k_ea_f, k_ea_t, k_as, s_ast, k_ag, s_par, k_pa, j_pa, l_pa, s_aug, k_au, j_aua, j_aus, s_app, k_ap, j_ap, s_sit, k_si, j_si, l_si, s_a2, k_a2, j_a2, l_a2, s_dp, k_dp, j_dp, s_exp, k_ex, s_iff, k_ift, k_iff, s_for, k_fo, k_foe, s_whl, s_ret, k_re, s_retN, s_brk, s_pass, getS_zero, getS_succ, isOwn, putS, dats, c_lt, c_le, c_gt, c_ge, c_is_none, c_is_int, c_is_str, c_is_tup, c_is_lst, c_is_bool, c_isnot_none, c_isnot_int, c_isnot_str, c_isnot_tup, c_isnot_lst, c_isnot_bool, c_in_sgn, c_eq, c_ne, eqOk_str, eqOk_sh, b_add, b_sub, b_mul, b_mod, b_div, b_addl, b_addt, b_rep, l_lst, l_tup, l_str, i_int, x_lst, x_tup, x_str, m_min, it_l, it_t, it_s, t_lst, q_lst, q_tup, bif_len, bif_int, bif_min, bif_max, bif_sum, bif_sorted, bif_all, bif_any, bif_tuple, bif_list, bif_divmod, mth_count, mth_index, mth_join, List.length_cons, List.length_nil, if_true, if_false, Bool.false_eq_true, Bool.or_false, Bool.false_or, Bool.or_self, List.set_cons_zero, List.set_cons_succ, List.map_cons, List.map_nil, frzS, bG_tp, bG_nm, bGs_nil, bGs_cons, ob_some, gd_t, ob_t, at20, at21, eq_self, and_self, and_true, true_and, decide_true, decide_false, Bool.not_true, Bool.not_false, isi_none_int, isi_none_bool, isi_none_str, isi_none_tuple, isi_none_list, isi_bool_int, isi_bool_bool, isi_bool_str, isi_bool_tuple, isi_bool_list, isi_int_int, isi_int_bool, isi_int_str, isi_int_tuple, isi_int_list, isi_str_int, isi_str_bool, isi_str_str, isi_str_tuple, isi_str_list, isi_tuple_int, isi_tuple_bool, isi_tuple_str, isi_tuple_tuple, isi_tuple_list, isi_list_int, isi_list_bool, isi_list_str, isi_list_tuple, isi_list_list, Option.map_some, bif_repr, getS_set, getS_frz, length_frz, List.length_set, List.length_map, line, Nat.reduceAdd, Nat.reduceLT, Nat.reduceLeDiff, Nat.reduceEqDiff, Nat.zero_le, Nat.zero_lt_succ, Int.reduceAdd, Int.reduceSub, Int.reduceLT, Int.reduceLE, Int.reduceToNat, Int.reduceNeg, fit_lit, fit62_lit, Bool.and_self, Bool.and_true, Bool.true_and, Bool.not_eq_true, wipe_len, wipe_nil, getS_wipe, rnD_some, hL, h1, h2, esub, ek, show fit62 (part (some k) ((size - acc.length : Nat) : Int)) = true from decide_eq_true (by omega)]
      rw [fin _ _ (rfl : part (some k) ((size - acc.length : Nat) : Int) = part (some k) ((size - acc.length : Nat) : Int)) (by simp only [e_var, k_val, k_own, e_glb, k_glb, k_cb, e_int, e_str, e_bl, e_non, e_bin, k_bin, j_bin, e_neg, k_neg, e_nt, k_nt, e_and, e_or, and1, and2, and_t, and_f, or1, or2, or_f, or_t, e_cmp, k_cmp, j_cmp, e_chn, k_chn, j_chn, l_chn, l_chf, e_ite, ite_t, ite_f, e_tup, k_tup, j_tup, e_lst, k_lst, j_lst, e_idx, k_idx, j_idx, e_slc, k_slc, j_slc, l_slc, o_nil, o_one, k_o, e_call, k_call, e_bif, k_bif, e_mth, k_mth, j_mth, e_isi, k_isi, e_lc, k_lc, j_lc, k_lce, k_lca_t, k_lca_f, k_lcb, ts_nil, ts_one, k_tb, e_dg, k_dg, e_dn, el_nil, el_cons, k_el, j_el, er_nil, er_cons, k_er, j_er, i_r1, k_r1, i_r2, k_r2, j_r2, i_en, k_enl, k_ent, i_zp, k_zp, j_zp, l_zp_ll, l_zp_tt, l_zp_tl, l_zp_lt, i_it, k_it, j_it, s_nil, s_seq, k_sqn, k_sqr, k_sqb, k_nx, s_asn, s_aso, ea, k_ea_f, k_ea_t, k_as, s_ast, k_ag, s_par, k_pa, j_pa, l_pa, s_aug, k_au, j_aua, j_aus, s_app, k_ap, j_ap, s_sit, k_si, j_si, l_si, s_a2, k_a2, j_a2, l_a2, s_dp, k_dp, j_dp, s_exp, k_ex, s_iff, k_ift, k_iff, s_for, k_fo, k_foe, s_whl, s_ret, k_re, s_retN, s_brk, s_pass, getS_zero, getS_succ, isOwn, putS, dats, c_lt, c_le, c_gt, c_ge, c_is_none, c_is_int, c_is_str, c_is_tup, c_is_lst, c_is_bool, c_isnot_none, c_isnot_int, c_isnot_str, c_isnot_tup, c_isnot_lst, c_isnot_bool, c_in_sgn, c_eq, c_ne, eqOk_str, eqOk_sh, b_add, b_sub, b_mul, b_mod, b_div, b_addl, b_addt, b_rep, l_lst, l_tup, l_str, i_int, x_lst, x_tup, x_str, m_min, it_l, it_t, it_s, t_lst, q_lst, q_tup, bif_len, bif_int, bif_min, bif_max, bif_sum, bif_sorted, bif_all, bif_any, bif_tuple, bif_list, bif_divmod, mth_count, mth_index, mth_join, List.length_cons, List.length_nil, if_true, if_false, Bool.false_eq_true, Bool.or_false, Bool.false_or, Bool.or_self, List.set_cons_zero, List.set_cons_succ, List.map_cons, List.map_nil, frzS, bG_tp, bG_nm, bGs_nil, bGs_cons, ob_some, gd_t, ob_t, at20, at21, eq_self, and_self, and_true, true_and, decide_true, decide_false, Bool.not_true, Bool.not_false, isi_none_int, isi_none_bool, isi_none_str, isi_none_tuple, isi_none_list, isi_bool_int, isi_bool_bool, isi_bool_str, isi_bool_tuple, isi_bool_list, isi_int_int, isi_int_bool, isi_int_str, isi_int_tuple, isi_int_list, isi_str_int, isi_str_bool, isi_str_str, isi_str_tuple, isi_str_list, isi_tuple_int, isi_tuple_bool, isi_tuple_str, isi_tuple_tuple, isi_tuple_list, isi_list_int, isi_list_bool, isi_list_str, isi_list_tuple, isi_list_list, Option.map_some, bif_repr, getS_set, getS_frz, length_frz, List.length_set, List.length_map, line, Nat.reduceAdd, Nat.reduceLT, Nat.reduceLeDiff, Nat.reduceEqDiff, Nat.zero_le, Nat.zero_lt_succ, Int.reduceAdd, Int.reduceSub, Int.reduceLT, Int.reduceLE, Int.reduceToNat, Int.reduceNeg, fit_lit, fit62_lit, Bool.and_self, Bool.and_true, Bool.true_and, Bool.not_eq_true, wipe_len, wipe_nil, getS_wipe, hL]) (by simp only [e_var, k_val, k_own, e_glb, k_glb, k_cb, e_int, e_str, e_bl, e_non, e_bin, k_bin, j_bin, e_neg, k_neg, e_nt, k_nt, e_and, e_or, and1, and2, and_t, and_f, or1, or2, or_f, or_t, e_cmp, k_cmp, j_cmp, e_chn, k_chn, j_chn, l_chn, l_chf, e_ite, ite_t, ite_f, e_tup, k_tup, j_tup, e_lst, k_lst, j_lst, e_idx, k_idx, j_idx, e_slc, k_slc, j_slc, l_slc, o_nil, o_one, k_o, e_call, k_call, e_bif, k_bif, e_mth, k_mth, j_mth, e_isi, k_isi, e_lc, k_lc, j_lc, k_lce, k_lca_t, k_lca_f, k_lcb, ts_nil, ts_one, k_tb, e_dg, k_dg, e_dn, el_nil, el_cons, k_el, j_el, er_nil, er_cons, k_er, j_er, i_r1, k_r1, i_r2, k_r2, j_r2, i_en, k_enl, k_ent, i_zp, k_zp, j_zp, l_zp_ll, l_zp_tt, l_zp_tl, l_zp_lt, i_it, k_it, j_it, s_nil, s_seq, k_sqn, k_sqr, k_sqb, k_nx, s_asn, s_aso, ea, k_ea_f, k_ea_t, k_as, s_ast, k_ag, s_par, k_pa, j_pa, l_pa, s_aug, k_au, j_aua, j_aus, s_app, k_ap, j_ap, s_sit, k_si, j_si, l_si, s_a2, k_a2, j_a2, l_a2, s_dp, k_dp, j_dp, s_exp, k_ex, s_iff, k_ift, k_iff, s_for, k_fo, k_foe, s_whl, s_ret, k_re, s_retN, s_brk, s_pass, getS_zero, getS_succ, isOwn, putS, dats, c_lt, c_le, c_gt, c_ge, c_is_none, c_is_int, c_is_str, c_is_tup, c_is_lst, c_is_bool, c_isnot_none, c_isnot_int, c_isnot_str, c_isnot_tup, c_isnot_lst, c_isnot_bool, c_in_sgn, c_eq, c_ne, eqOk_str, eqOk_sh, b_add, b_sub, b_mul, b_mod, b_div, b_addl, b_addt, b_rep, l_lst, l_tup, l_str, i_int, x_lst, x_tup, x_str, m_min, it_l, it_t, it_s, t_lst, q_lst, q_tup, bif_len, bif_int, bif_min, bif_max, bif_sum, bif_sorted, bif_all, bif_any, bif_tuple, bif_list, bif_divmod, mth_count, mth_index, mth_join, List.length_cons, List.length_nil, if_true, if_false, Bool.false_eq_true, Bool.or_false, Bool.false_or, Bool.or_self, List.set_cons_zero, List.set_cons_succ, List.map_cons, List.map_nil, frzS, bG_tp, bG_nm, bGs_nil, bGs_cons, ob_some, gd_t, ob_t, at20, at21, eq_self, and_self, and_true, true_and, decide_true, decide_false, Bool.not_true, Bool.not_false, isi_none_int, isi_none_bool, isi_none_str, isi_none_tuple, isi_none_list, isi_bool_int, isi_bool_bool, isi_bool_str, isi_bool_tuple, isi_bool_list, isi_int_int, isi_int_bool, isi_int_str, isi_int_tuple, isi_int_list, isi_str_int, isi_str_bool, isi_str_str, isi_str_tuple, isi_str_list, isi_tuple_int, isi_tuple_bool, isi_tuple_str, isi_tuple_tuple, isi_tuple_list, isi_list_int, isi_list_bool, isi_list_str, isi_list_tuple, isi_list_list, Option.map_some, bif_repr, getS_set, getS_frz, length_frz, List.length_set, List.length_map, line, Nat.reduceAdd, Nat.reduceLT, Nat.reduceLeDiff, Nat.reduceEqDiff, Nat.zero_le, Nat.zero_lt_succ, Int.reduceAdd, Int.reduceSub, Int.reduceLT, Int.reduceLE, Int.reduceToNat, Int.reduceNeg, fit_lit, fit62_lit, Bool.and_self, Bool.and_true, Bool.true_and, Bool.not_eq_true, wipe_len, wipe_nil, getS_wipe, hL])]
      simp (disch := first | assumption | omega) only [e_var, k_val, k_own, e_glb, k_glb, k_cb, e_int, e_str, e_bl, e_non, e_bin, k_bin, j_bin, e_neg, k_neg, e_nt, k_nt, e_and, e_or, and1, and2, and_t, and_f, or1, or2, or_f, or_t, e_cmp, k_cmp, j_cmp, e_chn, k_chn, j_chn, l_chn, l_chf, e_ite, ite_t, ite_f, e_tup, k_tup, j_tup, e_lst, k_lst, j_lst, e_idx, k_idx, j_idx, e_slc, k_slc, j_slc, l_slc, o_nil, o_one, k_o, e_call, k_call, e_bif, k_bif, e_mth, k_mth, j_mth, e_isi, k_isi, e_lc, k_lc, j_lc, k_lce, k_lca_t, k_lca_f, k_lcb, ts_nil, ts_one, k_tb, e_dg, k_dg, e_dn, el_nil, el_cons, k_el, j_el, er_nil, er_cons, k_er, j_er, i_r1, k_r1, i_r2, k_r2, j_r2, i_en, k_enl, k_ent, i_zp, k_zp, j_zp, l_zp_ll, l_zp_tt, l_zp_tl, l_zp_lt, i_it, k_it, j_it, s_nil, s_seq, k_sqn, k_sqr, k_sqb, k_nx, s_asn, s_aso, ea, k_ea_f, k_ea_t, k_as, s_ast, k_ag, s_par, k_pa, j_pa, l_pa, s_aug, k_au, j_aua, j_aus, s_app, k_ap, j_ap, s_sit, k_si, j_si, l_si, s_a2, k_a2, j_a2, l_a2, s_dp, k_dp, j_dp, s_exp, k_ex, s_iff, k_ift, k_iff, s_for, k_fo, k_foe, s_whl, s_ret, k_re, s_retN, s_brk, s_pass, getS_zero, getS_succ, isOwn, putS, dats, c_lt, c_le, c_gt, c_ge, c_is_none, c_is_int, c_is_str, c_is_tup, c_is_lst, c_is_bool, c_isnot_none, c_isnot_int, c_isnot_str, c_isnot_tup, c_isnot_lst, c_isnot_bool, c_in_sgn, c_eq, c_ne, eqOk_str, eqOk_sh, b_add, b_sub, b_mul, b_mod, b_div, b_addl, b_addt, b_rep, l_lst, l_tup, l_str, i_int, x_lst, x_tup, x_str, m_min, it_l, it_t, it_s, t_lst, q_lst, q_tup, bif_len, bif_int, bif_min, bif_max, bif_sum, bif_sorted, bif_all, bif_any, bif_tuple, bif_list, bif_divmod, mth_count, mth_index, mth_join, List.length_cons, List.length_nil, if_true, if_false, Bool.false_eq_true, Bool.or_false, Bool.false_or, Bool.or_self, List.set_cons_zero, List.set_cons_succ, List.map_cons, List.map_nil, frzS, bG_tp, bG_nm, bGs_nil, bGs_cons, ob_some, gd_t, ob_t, at20, at21, eq_self, and_self, and_true, true_and, decide_true, decide_false, Bool.not_true, Bool.not_false, isi_none_int, isi_none_bool, isi_none_str, isi_none_tuple, isi_none_list, isi_bool_int, isi_bool_bool, isi_bool_str, isi_bool_tuple, isi_bool_list, isi_int_int, isi_int_bool, isi_int_str, isi_int_tuple, isi_int_list, isi_str_int, isi_str_bool, isi_str_str, isi_str_tuple, isi_str_list, isi_tuple_int, isi_tuple_bool, isi_tuple_str, isi_tuple_tuple, isi_tuple_list, isi_list_int, isi_list_bool, isi_list_str, isi_list_tuple, isi_list_list, Option.map_some, bif_repr, getS_set, getS_frz, length_frz, List.length_set, List.length_map, line, Nat.reduceAdd, Nat.reduceLT, Nat.reduceLeDiff, Nat.reduceEqDiff, Nat.zero_le, Nat.zero_lt_succ, Int.reduceAdd, Int.reduceSub, Int.reduceLT, Int.reduceLE, Int.reduceToNat, Int.reduceNeg, fit_lit, fit62_lit, Bool.and_self, Bool.and_true, Bool.true_and, Bool.not_eq_true, wipe_len, wipe_nil, getS_wipe, ite_line, ite_ltline, fit62_of, fitI_of, mod_pos, ite_and, dec_le, dec_nle, dec_lt, dec_nlt, dec_eq, dec_neq, ite_le, ite_nle, ite_lt, ite_nlt, hL, List.length_range]
      refine done _ ?_ ?_ ?_
      · simp only [e_var, k_val, k_own, e_glb, k_glb, k_cb, e_int, e_str, e_bl, e_non, e_bin, k_bin, j_bin, e_neg, k_neg, e_nt, k_nt, e_and, e_or, and1, and2, and_t, and_f, or1, or2, or_f, or_t, e_cmp, k_cmp, j_cmp, e_chn, k_chn, j_chn, l_chn, l_chf, e_ite, ite_t, ite_f, e_tup, k_tup, j_tup, e_lst, k_lst, j_lst, e_idx, k_idx, j_idx, e_slc, k_slc, j_slc, l_slc, o_nil, o_one, k_o, e_call, k_call, e_bif, k_bif, e_mth, k_mth, j_mth, e_isi, k_isi, e_lc, k_lc, j_lc, k_lce, k_lca_t, k_lca_f, k_lcb, ts_nil, ts_one, k_tb, e_dg, k_dg, e_dn, el_nil, el_cons, k_el, j_el, er_nil, er_cons, k_er, j_er, i_r1, k_r1, i_r2, k_r2, j_r2, i_en, k_enl, k_ent, i_zp, k_zp, j_zp, l_zp_ll, l_zp_tt, l_zp_tl, l_zp_lt, i_it, k_it, j_it, s_nil, s_seq, k_sqn, k_sqr, k_sqb, k_nx, s_asn, s_aso, ea, k_ea_f, k_ea_t, k_as, s_ast, k_ag, s_par, k_pa, j_pa, l_pa, s_aug, k_au, j_aua, j_aus, s_app, k_ap, j_ap, s_sit, k_si, j_si, l_si, s_a2, k_a2, j_a2, l_a2, s_dp, k_dp, j_dp, s_exp, k_ex, s_iff, k_ift, k_iff, s_for, k_fo, k_foe, s_whl, s_ret, k_re, s_retN, s_brk, s_pass, getS_zero, getS_succ, isOwn, putS, dats, c_lt, c_le, c_gt, c_ge, c_is_none, c_is_int, c_is_str, c_is_tup, c_is_lst, c_is_bool, c_isnot_none, c_isnot_int, c_isnot_str, c_isnot_tup, c_isnot_lst, c_isnot_bool, c_in_sgn, c_eq, c_ne, eqOk_str, eqOk_sh, b_add, b_sub, b_mul, b_mod, b_div, b_addl, b_addt, b_rep, l_lst, l_tup, l_str, i_int, x_lst, x_tup, x_str, m_min, it_l, it_t, it_s, t_lst, q_lst, q_tup, bif_len, bif_int, bif_min, bif_max, bif_sum, bif_sorted, bif_all, bif_any, bif_tuple, bif_list, bif_divmod, mth_count, mth_index, mth_join, List.length_cons, List.length_nil, if_true, if_false, Bool.false_eq_true, Bool.or_false, Bool.false_or, Bool.or_self, List.set_cons_zero, List.set_cons_succ, List.map_cons, List.map_nil, frzS, bG_tp, bG_nm, bGs_nil, bGs_cons, ob_some, gd_t, ob_t, at20, at21, eq_self, and_self, and_true, true_and, decide_true, decide_false, Bool.not_true, Bool.not_false, isi_none_int, isi_none_bool, isi_none_str, isi_none_tuple, isi_none_list, isi_bool_int, isi_bool_bool, isi_bool_str, isi_bool_tuple, isi_bool_list, isi_int_int, isi_int_bool, isi_int_str, isi_int_tuple, isi_int_list, isi_str_int, isi_str_bool, isi_str_str, isi_str_tuple, isi_str_list, isi_tuple_int, isi_tuple_bool, isi_tuple_str, isi_tuple_tuple, isi_tuple_list, isi_list_int, isi_list_bool, isi_list_str, isi_list_tuple, isi_list_list, Option.map_some, bif_repr, getS_set, getS_frz, length_frz, List.length_set, List.length_map, line, Nat.reduceAdd, Nat.reduceLT, Nat.reduceLeDiff, Nat.reduceEqDiff, Nat.zero_le, Nat.zero_lt_succ, Int.reduceAdd, Int.reduceSub, Int.reduceLT, Int.reduceLE, Int.reduceToNat, Int.reduceNeg, fit_lit, fit62_lit, Bool.and_self, Bool.and_true, Bool.true_and, Bool.not_eq_true, wipe_len, wipe_nil, getS_wipe, hL]
      · simp only [e_var, k_val, k_own, e_glb, k_glb, k_cb, e_int, e_str, e_bl, e_non, e_bin, k_bin, j_bin, e_neg, k_neg, e_nt, k_nt, e_and, e_or, and1, and2, and_t, and_f, or1, or2, or_f, or_t, e_cmp, k_cmp, j_cmp, e_chn, k_chn, j_chn, l_chn, l_chf, e_ite, ite_t, ite_f, e_tup, k_tup, j_tup, e_lst, k_lst, j_lst, e_idx, k_idx, j_idx, e_slc, k_slc, j_slc, l_slc, o_nil, o_one, k_o, e_call, k_call, e_bif, k_bif, e_mth, k_mth, j_mth, e_isi, k_isi, e_lc, k_lc, j_lc, k_lce, k_lca_t, k_lca_f, k_lcb, ts_nil, ts_one, k_tb, e_dg, k_dg, e_dn, el_nil, el_cons, k_el, j_el, er_nil, er_cons, k_er, j_er, i_r1, k_r1, i_r2, k_r2, j_r2, i_en, k_enl, k_ent, i_zp, k_zp, j_zp, l_zp_ll, l_zp_tt, l_zp_tl, l_zp_lt, i_it, k_it, j_it, s_nil, s_seq, k_sqn, k_sqr, k_sqb, k_nx, s_asn, s_aso, ea, k_ea_f, k_ea_t, k_as, s_ast, k_ag, s_par, k_pa, j_pa, l_pa, s_aug, k_au, j_aua, j_aus, s_app, k_ap, j_ap, s_sit, k_si, j_si, l_si, s_a2, k_a2, j_a2, l_a2, s_dp, k_dp, j_dp, s_exp, k_ex, s_iff, k_ift, k_iff, s_for, k_fo, k_foe, s_whl, s_ret, k_re, s_retN, s_brk, s_pass, getS_zero, getS_succ, isOwn, putS, dats, c_lt, c_le, c_gt, c_ge, c_is_none, c_is_int, c_is_str, c_is_tup, c_is_lst, c_is_bool, c_isnot_none, c_isnot_int, c_isnot_str, c_isnot_tup, c_isnot_lst, c_isnot_bool, c_in_sgn, c_eq, c_ne, eqOk_str, eqOk_sh, b_add, b_sub, b_mul, b_mod, b_div, b_addl, b_addt, b_rep, l_lst, l_tup, l_str, i_int, x_lst, x_tup, x_str, m_min, it_l, it_t, it_s, t_lst, q_lst, q_tup, bif_len, bif_int, bif_min, bif_max, bif_sum, bif_sorted, bif_all, bif_any, bif_tuple, bif_list, bif_divmod, mth_count, mth_index, mth_join, List.length_cons, List.length_nil, if_true, if_false, Bool.false_eq_true, Bool.or_false, Bool.false_or, Bool.or_self, List.set_cons_zero, List.set_cons_succ, List.map_cons, List.map_nil, frzS, bG_tp, bG_nm, bGs_nil, bGs_cons, ob_some, gd_t, ob_t, at20, at21, eq_self, and_self, and_true, true_and, decide_true, decide_false, Bool.not_true, Bool.not_false, isi_none_int, isi_none_bool, isi_none_str, isi_none_tuple, isi_none_list, isi_bool_int, isi_bool_bool, isi_bool_str, isi_bool_tuple, isi_bool_list, isi_int_int, isi_int_bool, isi_int_str, isi_int_tuple, isi_int_list, isi_str_int, isi_str_bool, isi_str_str, isi_str_tuple, isi_str_list, isi_tuple_int, isi_tuple_bool, isi_tuple_str, isi_tuple_tuple, isi_tuple_list, isi_list_int, isi_list_bool, isi_list_str, isi_list_tuple, isi_list_list, Option.map_some, bif_repr, getS_set, getS_frz, length_frz, List.length_set, List.length_map, line, Nat.reduceAdd, Nat.reduceLT, Nat.reduceLeDiff, Nat.reduceEqDiff, Nat.zero_le, Nat.zero_lt_succ, Int.reduceAdd, Int.reduceSub, Int.reduceLT, Int.reduceLE, Int.reduceToNat, Int.reduceNeg, fit_lit, fit62_lit, Bool.and_self, Bool.and_true, Bool.true_and, Bool.not_eq_true, wipe_len, wipe_nil, getS_wipe, hL, h1]
      · simp only [e_var, k_val, k_own, e_glb, k_glb, k_cb, e_int, e_str, e_bl, e_non, e_bin, k_bin, j_bin, e_neg, k_neg, e_nt, k_nt, e_and, e_or, and1, and2, and_t, and_f, or1, or2, or_f, or_t, e_cmp, k_cmp, j_cmp, e_chn, k_chn, j_chn, l_chn, l_chf, e_ite, ite_t, ite_f, e_tup, k_tup, j_tup, e_lst, k_lst, j_lst, e_idx, k_idx, j_idx, e_slc, k_slc, j_slc, l_slc, o_nil, o_one, k_o, e_call, k_call, e_bif, k_bif, e_mth, k_mth, j_mth, e_isi, k_isi, e_lc, k_lc, j_lc, k_lce, k_lca_t, k_lca_f, k_lcb, ts_nil, ts_one, k_tb, e_dg, k_dg, e_dn, el_nil, el_cons, k_el, j_el, er_nil, er_cons, k_er, j_er, i_r1, k_r1, i_r2, k_r2, j_r2, i_en, k_enl, k_ent, i_zp, k_zp, j_zp, l_zp_ll, l_zp_tt, l_zp_tl, l_zp_lt, i_it, k_it, j_it, s_nil, s_seq, k_sqn, k_sqr, k_sqb, k_nx, s_asn, s_aso, ea, k_ea_f, k_ea_t, k_as, s_ast, k_ag, s_par, k_pa, j_pa, l_pa, s_aug, k_au, j_aua, j_aus, s_app, k_ap, j_ap, s_sit, k_si, j_si, l_si, s_a2, k_a2, j_a2, l_a2, s_dp, k_dp, j_dp, s_exp, k_ex, s_iff, k_ift, k_iff, s_for, k_fo, k_foe, s_whl, s_ret, k_re, s_retN, s_brk, s_pass, getS_zero, getS_succ, isOwn, putS, dats, c_lt, c_le, c_gt, c_ge, c_is_none, c_is_int, c_is_str, c_is_tup, c_is_lst, c_is_bool, c_isnot_none, c_isnot_int, c_isnot_str, c_isnot_tup, c_isnot_lst, c_isnot_bool, c_in_sgn, c_eq, c_ne, eqOk_str, eqOk_sh, b_add, b_sub, b_mul, b_mod, b_div, b_addl, b_addt, b_rep, l_lst, l_tup, l_str, i_int, x_lst, x_tup, x_str, m_min, it_l, it_t, it_s, t_lst, q_lst, q_tup, bif_len, bif_int, bif_min, bif_max, bif_sum, bif_sorted, bif_all, bif_any, bif_tuple, bif_list, bif_divmod, mth_count, mth_index, mth_join, List.length_cons, List.length_nil, if_true, if_false, Bool.false_eq_true, Bool.or_false, Bool.false_or, Bool.or_self, List.set_cons_zero, List.set_cons_succ, List.map_cons, List.map_nil, frzS, bG_tp, bG_nm, bGs_nil, bGs_cons, ob_some, gd_t, ob_t, at20, at21, eq_self, and_self, and_true, true_and, decide_true, decide_false, Bool.not_true, Bool.not_false, isi_none_int, isi_none_bool, isi_none_str, isi_none_tuple, isi_none_list, isi_bool_int, isi_bool_bool, isi_bool_str, isi_bool_tuple, isi_bool_list, isi_int_int, isi_int_bool, isi_int_str, isi_int_tuple, isi_int_list, isi_str_int, isi_str_bool, isi_str_str, isi_str_tuple, isi_str_list, isi_tuple_int, isi_tuple_bool, isi_tuple_str, isi_tuple_tuple, isi_tuple_list, isi_list_int, isi_list_bool, isi_list_str, isi_list_tuple, isi_list_list, Option.map_some, bif_repr, getS_set, getS_frz, length_frz, List.length_set, List.length_map, line, Nat.reduceAdd, Nat.reduceLT, Nat.reduceLeDiff, Nat.reduceEqDiff, Nat.zero_le, Nat.zero_lt_succ, Int.reduceAdd, Int.reduceSub, Int.reduceLT, Int.reduceLE, Int.reduceToNat, Int.reduceNeg, fit_lit, fit62_lit, Bool.and_self, Bool.and_true, Bool.true_and, Bool.not_eq_true, wipe_len, wipe_nil, getS_wipe, hL]
  · obtain ⟨acc, hL, h1, h2, rfl, hle, hq⟩ := hI
    rw [enumD_len, List.length_map, List.drop_length] at hq
    simp only [e_var, k_val, k_own, e_glb, k_glb, k_cb, e_int, e_str, e_bl, e_non, e_bin, k_bin, j_bin, e_neg, k_neg, e_nt, k_nt, e_and, e_or, and1, and2, and_t, and_f, or1, or2, or_f, or_t, e_cmp, k_cmp, j_cmp, e_chn, k_chn, j_chn, l_chn, l_chf, e_ite, ite_t, ite_f, e_tup, k_tup, j_tup, e_lst, k_lst, j_lst, e_idx, k_idx, j_idx, e_slc, k_slc, j_slc, l_slc, o_nil, o_one, k_o, e_call, k_call, e_bif, k_bif, e_mth, k_mth, j_mth, e_isi, k_isi, e_lc, k_lc, j_lc, k_lce, k_lca_t, k_lca_f, k_lcb, ts_nil, ts_one, k_tb, e_dg, k_dg, e_dn, el_nil, el_cons, k_el, j_el, er_nil, er_cons, k_er, j_er, i_r1, k_r1, i_r2, k_r2, j_r2, i_en, k_enl, k_ent, i_zp, k_zp, j_zp, l_zp_ll, l_zp_tt, l_zp_tl, l_zp_lt, i_it, k_it, j_it, s_nil, s_seq, k_sqn, k_sqr, k_sqb, k_nx, s_asn, s_aso, ea, k_ea_f, k_ea_t, k_as, s_ast, k_ag, s_par, k_pa, j_pa, l_pa, s_aug, k_au, j_aua, j_aus, s_app, k_ap, j_ap, s_sit, k_si, j_si, l_si, s_a2, k_a2, j_a2, l_a2, s_dp, k_dp, j_dp, s_exp, k_ex, s_iff, k_ift, k_iff, s_for, k_fo, k_foe, s_whl, s_ret, k_re, s_retN, s_brk, s_pass, getS_zero, getS_succ, isOwn, putS, dats, c_lt, c_le, c_gt, c_ge, c_is_none, c_is_int, c_is_str, c_is_tup, c_is_lst, c_is_bool, c_isnot_none, c_isnot_int, c_isnot_str, c_isnot_tup, c_isnot_lst, c_isnot_bool, c_in_sgn, c_eq, c_ne, eqOk_str, eqOk_sh, b_add, b_sub, b_mul, b_mod, b_div, b_addl, b_addt, b_rep, l_lst, l_tup, l_str, i_int, x_lst, x_tup, x_str, m_min, it_l, it_t, it_s, t_lst, q_lst, q_tup, bif_len, bif_int, bif_min, bif_max, bif_sum, bif_sorted, bif_all, bif_any, bif_tuple, bif_list, bif_divmod, mth_count, mth_index, mth_join, List.length_cons, List.length_nil, if_true, if_false, Bool.false_eq_true, Bool.or_false, Bool.false_or, Bool.or_self, List.set_cons_zero, List.set_cons_succ, List.map_cons, List.map_nil, frzS, bG_tp, bG_nm, bGs_nil, bGs_cons, ob_some, gd_t, ob_t, at20, at21, eq_self, and_self, and_true, true_and, decide_true, decide_false, Bool.not_true, Bool.not_false, isi_none_int, isi_none_bool, isi_none_str, isi_none_tuple, isi_none_list, isi_bool_int, isi_bool_bool, isi_bool_str, isi_bool_tuple, isi_bool_list, isi_int_int, isi_int_bool, isi_int_str, isi_int_tuple, isi_int_list, isi_str_int, isi_str_bool, isi_str_str, isi_str_tuple, isi_str_list, isi_tuple_int, isi_tuple_bool, isi_tuple_str, isi_tuple_tuple, isi_tuple_list, isi_list_int, isi_list_bool, isi_list_str, isi_list_tuple, isi_list_list, Option.map_some, bif_repr, getS_set, getS_frz, length_frz, List.length_set, List.length_map, line, Nat.reduceAdd, Nat.reduceLT, Nat.reduceLeDiff, Nat.reduceEqDiff, Nat.zero_le, Nat.zero_lt_succ, Int.reduceAdd, Int.reduceSub, Int.reduceLT, Int.reduceLE, Int.reduceToNat, Int.reduceNeg, fit_lit, fit62_lit, Bool.and_self, Bool.and_true, Bool.true_and, Bool.not_eq_true, wipe_len, wipe_nil, getS_wipe, h2]
    refine ⟨_, rfl, ?_⟩
    rw [← hq, placesOf, List.append_nil]
end
end Rm

set_option Elab.async false
set_option linter.all false
set_option maxRecDepth 100000
set_option maxHeartbeats 4000000
/-! Rv, mathematics: law k03, one deal. -/
namespace Rm
open Rv
open PySem
section
variable {wf n : Nat} {st : Sto}
abbrev rowN (ps : List Str) (R : List Rn) (k : Nat) : List PyData := (List.range k).map fun c => .str (nm ps (dg R c))
abbrev hasT (m : Nat) (R : List Rn) (c : Nat) : PyData := .tuple ((List.range m).map fun d => .int (cby R d (c : Int)))
theorem hasT_eq (m : Nat) (R : List Rn) (c : Nat) : PyData.tuple ((hasL m R (c : Int)).map .int) = hasT m R c := by
  rw [hasL, List.map_map]; rfl
theorem zip_sub {F : Str → List Vl → Sto → Res (Vl × Sto)} {G' : Str → Option PyData} {en : En} {m : Nat} {f g : Nat → Int} (hL : en.length = 19) :
    lcT F G' (.bin .Sub (.var 18) (.var 4)) (.tp (.cons (.nm 4) (.cons (.nm 18) .nil))) .nil en (zipD ((List.range m).map fun d => .int (f d)) ((List.range m).map fun d => .int (g d))) st = .ok ((List.range m).map (fun d => .int (g d - f d)), st) := by
  rw [zipD_same, lcT_map (fun d : Nat => .int (g d - f d))]
  intro d hd
  simp only [e_var, k_val, k_own, e_glb, k_glb, k_cb, e_int, e_str, e_bl, e_non, e_bin, k_bin, j_bin, e_neg, k_neg, e_nt, k_nt, e_and, e_or, and1, and2, and_t, and_f, or1, or2, or_f, or_t, e_cmp, k_cmp, j_cmp, e_chn, k_chn, j_chn, l_chn, l_chf, e_ite, ite_t, ite_f, e_tup, k_tup, j_tup, e_lst, k_lst, j_lst, e_idx, k_idx, j_idx, e_slc, k_slc, j_slc, l_slc, o_nil, o_one, k_o, e_call, k_call, e_bif, k_bif, e_mth, k_mth, j_mth, e_isi, k_isi, e_lc, k_lc, j_lc, k_lce, k_lca_t, k_lca_f, k_lcb, ts_nil, ts_one, k_tb, e_dg, k_dg, e_dn, el_nil, el_cons, k_el, j_el, er_nil, er_cons, k_er, j_er, i_r1, k_r1, i_r2, k_r2, j_r2, i_en, k_enl, k_ent, i_zp, k_zp, j_zp, l_zp_ll, l_zp_tt, l_zp_tl, l_zp_lt, i_it, k_it, j_it, s_nil, s_seq, k_sqn, k_sqr, k_sqb, k_nx, s_asn, s_aso, ea, k_ea_f, k_ea_t, k_as, s_ast, k_ag, s_par, k_pa, j_pa, l_pa, s_aug, k_au, j_aua, j_aus, s_app, k_ap, j_ap, s_sit, k_si, j_si, l_si, s_a2, k_a2, j_a2, l_a2, s_dp, k_dp, j_dp, s_exp, k_ex, s_iff, k_ift, k_iff, s_for, k_fo, k_foe, s_whl, s_ret, k_re, s_retN, s_brk, s_pass, getS_zero, getS_succ, isOwn, putS, dats, c_lt, c_le, c_gt, c_ge, c_is_none, c_is_int, c_is_str, c_is_tup, c_is_lst, c_is_bool, c_isnot_none, c_isnot_int, c_isnot_str, c_isnot_tup, c_isnot_lst, c_isnot_bool, c_in_sgn, c_eq, c_ne, eqOk_str, eqOk_sh, b_add, b_sub, b_mul, b_mod, b_div, b_addl, b_addt, b_rep, l_lst, l_tup, l_str, i_int, x_lst, x_tup, x_str, m_min, it_l, it_t, it_s, t_lst, q_lst, q_tup, bif_len, bif_int, bif_min, bif_max, bif_sum, bif_sorted, bif_all, bif_any, bif_tuple, bif_list, bif_divmod, mth_count, mth_index, mth_join, List.length_cons, List.length_nil, if_true, if_false, Bool.false_eq_true, Bool.or_false, Bool.false_or, Bool.or_self, List.set_cons_zero, List.set_cons_succ, List.map_cons, List.map_nil, frzS, bG_tp, bG_nm, bGs_nil, bGs_cons, ob_some, gd_t, ob_t, at20, at21, eq_self, and_self, and_true, true_and, decide_true, decide_false, Bool.not_true, Bool.not_false, isi_none_int, isi_none_bool, isi_none_str, isi_none_tuple, isi_none_list, isi_bool_int, isi_bool_bool, isi_bool_str, isi_bool_tuple, isi_bool_list, isi_int_int, isi_int_bool, isi_int_str, isi_int_tuple, isi_int_list, isi_str_int, isi_str_bool, isi_str_str, isi_str_tuple, isi_str_list, isi_tuple_int, isi_tuple_bool, isi_tuple_str, isi_tuple_tuple, isi_tuple_list, isi_list_int, isi_list_bool, isi_list_str, isi_list_tuple, isi_list_list, Option.map_some, bif_repr, getS_set, getS_frz, length_frz, List.length_set, List.length_map, line, Nat.reduceAdd, Nat.reduceLT, Nat.reduceLeDiff, Nat.reduceEqDiff, Nat.zero_le, Nat.zero_lt_succ, Int.reduceAdd, Int.reduceSub, Int.reduceLT, Int.reduceLE, Int.reduceToNat, Int.reduceNeg, fit_lit, fit62_lit, Bool.and_self, Bool.and_true, Bool.true_and, Bool.not_eq_true, wipe_len, wipe_nil, getS_wipe, hL]
theorem zip_add {F : Str → List Vl → Sto → Res (Vl × Sto)} {G' : Str → Option PyData} {en : En} {m : Nat} {f g : Nat → Int} (hL : en.length = 19) :
    lcT F G' (.bin .Add (.var 4) (.var 18)) (.tp (.cons (.nm 4) (.cons (.nm 18) .nil))) .nil en (zipD ((List.range m).map fun d => .int (f d)) ((List.range m).map fun d => .int (g d))) st = .ok ((List.range m).map (fun d => .int (f d + g d)), st) := by
  rw [zipD_same, lcT_map (fun d : Nat => .int (f d + g d))]
  intro d hd
  simp only [e_var, k_val, k_own, e_glb, k_glb, k_cb, e_int, e_str, e_bl, e_non, e_bin, k_bin, j_bin, e_neg, k_neg, e_nt, k_nt, e_and, e_or, and1, and2, and_t, and_f, or1, or2, or_f, or_t, e_cmp, k_cmp, j_cmp, e_chn, k_chn, j_chn, l_chn, l_chf, e_ite, ite_t, ite_f, e_tup, k_tup, j_tup, e_lst, k_lst, j_lst, e_idx, k_idx, j_idx, e_slc, k_slc, j_slc, l_slc, o_nil, o_one, k_o, e_call, k_call, e_bif, k_bif, e_mth, k_mth, j_mth, e_isi, k_isi, e_lc, k_lc, j_lc, k_lce, k_lca_t, k_lca_f, k_lcb, ts_nil, ts_one, k_tb, e_dg, k_dg, e_dn, el_nil, el_cons, k_el, j_el, er_nil, er_cons, k_er, j_er, i_r1, k_r1, i_r2, k_r2, j_r2, i_en, k_enl, k_ent, i_zp, k_zp, j_zp, l_zp_ll, l_zp_tt, l_zp_tl, l_zp_lt, i_it, k_it, j_it, s_nil, s_seq, k_sqn, k_sqr, k_sqb, k_nx, s_asn, s_aso, ea, k_ea_f, k_ea_t, k_as, s_ast, k_ag, s_par, k_pa, j_pa, l_pa, s_aug, k_au, j_aua, j_aus, s_app, k_ap, j_ap, s_sit, k_si, j_si, l_si, s_a2, k_a2, j_a2, l_a2, s_dp, k_dp, j_dp, s_exp, k_ex, s_iff, k_ift, k_iff, s_for, k_fo, k_foe, s_whl, s_ret, k_re, s_retN, s_brk, s_pass, getS_zero, getS_succ, isOwn, putS, dats, c_lt, c_le, c_gt, c_ge, c_is_none, c_is_int, c_is_str, c_is_tup, c_is_lst, c_is_bool, c_isnot_none, c_isnot_int, c_isnot_str, c_isnot_tup, c_isnot_lst, c_isnot_bool, c_in_sgn, c_eq, c_ne, eqOk_str, eqOk_sh, b_add, b_sub, b_mul, b_mod, b_div, b_addl, b_addt, b_rep, l_lst, l_tup, l_str, i_int, x_lst, x_tup, x_str, m_min, it_l, it_t, it_s, t_lst, q_lst, q_tup, bif_len, bif_int, bif_min, bif_max, bif_sum, bif_sorted, bif_all, bif_any, bif_tuple, bif_list, bif_divmod, mth_count, mth_index, mth_join, List.length_cons, List.length_nil, if_true, if_false, Bool.false_eq_true, Bool.or_false, Bool.false_or, Bool.or_self, List.set_cons_zero, List.set_cons_succ, List.map_cons, List.map_nil, frzS, bG_tp, bG_nm, bGs_nil, bGs_cons, ob_some, gd_t, ob_t, at20, at21, eq_self, and_self, and_true, true_and, decide_true, decide_false, Bool.not_true, Bool.not_false, isi_none_int, isi_none_bool, isi_none_str, isi_none_tuple, isi_none_list, isi_bool_int, isi_bool_bool, isi_bool_str, isi_bool_tuple, isi_bool_list, isi_int_int, isi_int_bool, isi_int_str, isi_int_tuple, isi_int_list, isi_str_int, isi_str_bool, isi_str_str, isi_str_tuple, isi_str_list, isi_tuple_int, isi_tuple_bool, isi_tuple_str, isi_tuple_tuple, isi_tuple_list, isi_list_int, isi_list_bool, isi_list_str, isi_list_tuple, isi_list_list, Option.map_some, bif_repr, getS_set, getS_frz, length_frz, List.length_set, List.length_map, line, Nat.reduceAdd, Nat.reduceLT, Nat.reduceLeDiff, Nat.reduceEqDiff, Nat.zero_le, Nat.zero_lt_succ, Int.reduceAdd, Int.reduceSub, Int.reduceLT, Int.reduceLE, Int.reduceToNat, Int.reduceNeg, fit_lit, fit62_lit, Bool.and_self, Bool.and_true, Bool.true_and, Bool.not_eq_true, wipe_len, wipe_nil, getS_wipe, hL]
theorem s_getsD {ps : List Str} {rs : Rs} {l : Fig} {b c : Nat} (h : DealOk ps rs l) (hb : b ≤ 1000) (hc : c ≤ 1000) : runF tbl glb wf (n + 4) "gets" [.dat (dealD ps (full rs l)), .dat (.int (b : Int)), .dat (.int (c : Int))] st = .ok (.dat (.tuple ((List.range ps.length).map fun d => .int (cby (full rs l) d ((b + c : Nat) : Int) - cby (full rs l) d (b : Int)))), st) := by
  rw [s_gets h (by omega) (by omega) (by omega) (by omega), List.map_map]
  rfl
theorem b_rep' (i : List PyData) (j : Int) (h1 : 0 ≤ j) (h2 : j < 1000) (h3 : i.length ≤ 1000) : binD .Mult (.list i) (.int j) = some (.list (List.replicate j.toNat i).flatten) := by
  rw [b_rep, if_pos ⟨by omega, h2, h3⟩]
theorem a2_int {l : List PyData} {i : Nat} {en : En} {z y : Int} (x : Nat) (hx : x < l.length) (hz : l[x]? = some (.int z)) : a2M l i en .Add (.int (x : Int)) (.int y) st = .ok (.next (en.set i (some (.own (l.set x (.int (z + y)))))) st) := by
  show (if 0 ≤ (x : Int) ∧ (x : Int) < (l.length : Int) then _ else _) = _
  rw [if_pos ⟨by omega, by omega⟩, Int.toNat_natCast, hz]
theorem pl_le {m : Nat} {rs : Rs} {l : Fig} (h : Good m rs l) (c : Nat) : (pl (full rs l) c).1 ≤ rs.length ∧ (pl (full rs l) c).2 ≤ c := by
  obtain ⟨i, a, h1, h2, h3, h4⟩ := place_full rs l (c : Int) 0
  rw [pl, h1]
  have hs : 0 ≤ ((rs.take (i - 0)).map (·.1)).sum := by
    have : ∀ q : Rs, (∀ r ∈ q, 1 ≤ r.1) → 0 ≤ (q.map (·.1)).sum := fun q hq => by
      induction q with
      | nil => simp
      | cons y q ih =>
        have h1 := hq y (List.mem_cons_self ..)
        have h2 := ih fun r hr => hq r (List.mem_cons_of_mem _ hr)
        rw [List.map_cons, List.sum_cons]
        omega
    exact this _ fun r hr => (h.each r (List.mem_of_mem_take hr)).2.1
  exact ⟨by simpa using h3, by simp only; omega⟩
theorem slice_range {f : Nat → PyData} {a b k : Nat} (h1 : a ≤ b) (h2 : b ≤ k) : sliceD (.list ((List.range k).map f)) (some (a : Int)) (some (b : Int)) = some (.list ((List.range (b - a)).map fun j => f (a + j))) := by
  simp only [sliceD]
  congr 2
  unfold cutD
  have e1 : HT.sIx ((List.range k).map f).length 0 (some (a : Int)) = a := by
    show (if (a : Int) < 0 then ((a : Int) + (((List.range k).map f).length : Int)).toNat else min (a : Int).toNat ((List.range k).map f).length) = a
    rw [if_neg (by omega), List.length_map, List.length_range, Int.toNat_natCast]
    omega
  have e2 : HT.sIx ((List.range k).map f).length ((List.range k).map f).length (some (b : Int)) = b := by
    show (if (b : Int) < 0 then ((b : Int) + (((List.range k).map f).length : Int)).toNat else min (b : Int).toNat ((List.range k).map f).length) = b
    rw [if_neg (by omega), List.length_map, List.length_range, Int.toNat_natCast]
    omega
  rw [e1, e2]
  refine ext_range (by simp; omega) fun c hc => ?_
  rw [List.getElem?_take_of_lt hc, List.getElem?_drop, range_at (by omega)]
mutual
theorem eqv_self : ∀ {d : PyData}, okD d = true → PyData.eqv d d = true
  | .none, _ => by simp only [PyData.eqv]
  | .bool b, _ => by simp only [PyData.eqv, beq_self_eq_true]
  | .int i, _ => by simp only [PyData.eqv, beq_self_eq_true]
  | .str x, _ => by simp only [PyData.eqv, beq_self_eq_true]
  | .list xs, h => by simp only [okD] at h; simp only [PyData.eqv]; exact eqvs_self h
  | .tuple xs, h => by simp only [okD] at h; simp only [PyData.eqv]; exact eqvs_self h
  | .dict _, h => by simp only [okD, Bool.false_eq_true] at h
theorem eqvs_self : ∀ {l : List PyData}, okDs l = true → PyData.eqvAll l l = true
  | [], _ => by simp only [PyData.eqvAll]
  | x :: xs, h => by
    simp only [okDs, Bool.and_eq_true] at h
    simp only [PyData.eqvAll, eqv_self h.1, eqvs_self h.2, Bool.and_self]
end
theorem eqv_rep (m : Nat) : PyData.eqv (.tuple ((List.range m).map fun _ => .int 0)) (.tuple ((List.range m).map fun _ => .int 0)) = true := by
  have := eqv_tup ((List.range m).map fun _ => 0) ((List.range m).map fun _ => 0)
  rw [List.map_map] at this
  rw [show (fun _ : Nat => PyData.int 0) = PyData.int ∘ fun _ => 0 from rfl, this, decide_eq_true rfl]
theorem bG_deal (g : G) (ps : List Str) (R : List Rn) (en : En) : bindG (.tp g) (dealD ps R) en = bindG.bindGs g [psD ps, rsD R] en := by rw [dealD, bG_tp]
theorem ni_hasT {m : Nat} {rs : Rs} {l : Fig} (h : Good m rs l) (hm : m ≤ 6) {c : Nat} (hc : c ≤ 1000) : Ni 1 900 (hasT m (full rs l) c) := (Ni.tuple (n := 6) (fun x hx => by
  obtain ⟨d, _, rfl⟩ := List.mem_map.mp hx
  have := cby_le h c d
  exact Ni.int (by omega)) (by simpa using hm)).mono (Nat.le_refl _) (by decide)
theorem ni_dif {m : Nat} {rs : Rs} {l : Fig} (h : Good m rs l) (hm : m ≤ 6) {b c : Nat} (hb : b ≤ 1000) (hc : c ≤ 1000) : Ni 1 900 (.tuple ((List.range m).map fun d => .int (cby (full rs l) d (c : Int) - cby (full rs l) d (b : Int)))) := (Ni.tuple (n := 6) (fun x hx => by
  obtain ⟨d, _, rfl⟩ := List.mem_map.mp hx
  have h1 := cby_le h c d
  have h2 := cby_le h b d
  exact Ni.int (by omega)) (by simpa using hm)).mono (Nat.le_refl _) (by decide)
theorem s_right {ps : List Str} {rs : Rs} {l : Fig} {b : Nat} (hp : People ps) (h : DealOk ps rs l) (hM : MOk b st) (hb : b ≤ 20000) :
    ∃ st', runF tbl glb wf (n + 5) "_law_right" [.dic 0, .dat (dealD ps (full rs l))] st = .ok (.dat (.bool true), st') ∧ MOk (b + 18) st' := by
  obtain ⟨m1, m6⟩ := hp.len
  have hG := h.good
  have hR : (full rs l).length ≤ 1000 := rs_full_len h
  have key : Ok (evS (runF tbl glb wf (n + 4)) glb wf ir__law_right [some (.val (.dic 0)), some (.val (.dat (dealD ps (full rs l)))), none, none, none, none, none, none, none, none, none, none, none, none, none, none, none, none, none] st)
      (fun o => ∃ st', o = .ret (.dat (.bool true)) st' ∧ MOk (b + 18) st') := by
    generalize hRd : full rs l = R at *
    have eRow : runF tbl glb wf (n + 4) "_law_row" [.dat (rsD R), .dat (.int 90)] st = .ok (.dat (.list (((List.range 90).map (dg R)).map sg)), st) := by
      have := s_row (wf := wf) (n := n + 3) (st := st) (R := R) (size := 90) (hRd ▸ h.sz) (by decide)
      rw [← hRd, row_eq hG] at this
      rw [← hRd]
      exact this
    have dlt : ∀ c, dg R c < ps.length := fun c => by rw [← hRd]; exact dg_lt hG c
    have eNm : ∀ en : En, en.length = 19 → getS en 6 = some (.val (.dat (psD ps))) → lcT (runF tbl glb wf (n + 4)) glb (.idx (.var 6) (.mth "index" (.cstr "012345") (.cons (.var 14) .nil))) (.nm 14) .nil en (((List.range 90).map (dg R)).map sg) st = .ok (rowN ps R 90, st) := fun en hL h6 => by
      rw [List.map_map, lcT_map (fun c : Nat => .str (nm ps (dg R c)))]
      intro c hc
      simp only [e_var, k_val, k_own, e_glb, k_glb, k_cb, e_int, e_str, e_bl, e_non, e_bin, k_bin, j_bin, e_neg, k_neg, e_nt, k_nt, e_and, e_or, and1, and2, and_t, and_f, or1, or2, or_f, or_t, e_cmp, k_cmp, j_cmp, e_chn, k_chn, j_chn, l_chn, l_chf, e_ite, ite_t, ite_f, e_tup, k_tup, j_tup, e_lst, k_lst, j_lst, e_idx, k_idx, j_idx, e_slc, k_slc, j_slc, l_slc, o_nil, o_one, k_o, e_call, k_call, e_bif, k_bif, e_mth, k_mth, j_mth, e_isi, k_isi, e_lc, k_lc, j_lc, k_lce, k_lca_t, k_lca_f, k_lcb, ts_nil, ts_one, k_tb, e_dg, k_dg, e_dn, el_nil, el_cons, k_el, j_el, er_nil, er_cons, k_er, j_er, i_r1, k_r1, i_r2, k_r2, j_r2, i_en, k_enl, k_ent, i_zp, k_zp, j_zp, l_zp_ll, l_zp_tt, l_zp_tl, l_zp_lt, i_it, k_it, j_it, s_nil, s_seq, k_sqn, k_sqr, k_sqb, k_nx, s_asn, s_aso, ea, k_ea_f, k_ea_t, k_as, s_ast, k_ag, s_par, k_pa, j_pa, l_pa, s_aug, k_au, j_aua, j_aus, s_app, k_ap, j_ap, s_sit, k_si, j_si, l_si, s_a2, k_a2, j_a2, l_a2, s_dp, k_dp, j_dp, s_exp, k_ex, s_iff, k_ift, k_iff, s_for, k_fo, k_foe, s_whl, s_ret, k_re, s_retN, s_brk, s_pass, getS_zero, getS_succ, isOwn, putS, dats, c_lt, c_le, c_gt, c_ge, c_is_none, c_is_int, c_is_str, c_is_tup, c_is_lst, c_is_bool, c_isnot_none, c_isnot_int, c_isnot_str, c_isnot_tup, c_isnot_lst, c_isnot_bool, c_in_sgn, c_eq, c_ne, eqOk_str, eqOk_sh, b_add, b_sub, b_mul, b_mod, b_div, b_addl, b_addt, b_rep, l_lst, l_tup, l_str, i_int, x_lst, x_tup, x_str, m_min, it_l, it_t, it_s, t_lst, q_lst, q_tup, bif_len, bif_int, bif_min, bif_max, bif_sum, bif_sorted, bif_all, bif_any, bif_tuple, bif_list, bif_divmod, mth_count, mth_index, mth_join, List.length_cons, List.length_nil, if_true, if_false, Bool.false_eq_true, Bool.or_false, Bool.false_or, Bool.or_self, List.set_cons_zero, List.set_cons_succ, List.map_cons, List.map_nil, frzS, bG_tp, bG_nm, bGs_nil, bGs_cons, ob_some, gd_t, ob_t, at20, at21, eq_self, and_self, and_true, true_and, decide_true, decide_false, Bool.not_true, Bool.not_false, isi_none_int, isi_none_bool, isi_none_str, isi_none_tuple, isi_none_list, isi_bool_int, isi_bool_bool, isi_bool_str, isi_bool_tuple, isi_bool_list, isi_int_int, isi_int_bool, isi_int_str, isi_int_tuple, isi_int_list, isi_str_int, isi_str_bool, isi_str_str, isi_str_tuple, isi_str_list, isi_tuple_int, isi_tuple_bool, isi_tuple_str, isi_tuple_tuple, isi_tuple_list, isi_list_int, isi_list_bool, isi_list_str, isi_list_tuple, isi_list_list, Option.map_some, bif_repr, getS_set, getS_frz, length_frz, List.length_set, List.length_map, line, Nat.reduceAdd, Nat.reduceLT, Nat.reduceLeDiff, Nat.reduceEqDiff, Nat.zero_le, Nat.zero_lt_succ, Int.reduceAdd, Int.reduceSub, Int.reduceLT, Int.reduceLE, Int.reduceToNat, Int.reduceNeg, fit_lit, fit62_lit, Bool.and_self, Bool.and_true, Bool.true_and, Bool.not_eq_true, wipe_len, wipe_nil, getS_wipe, hL, h6, Function.comp, sg, six_ix (dg R c) (by have := dlt c; omega), x_ps, at_map (f := PyData.str) (nm_at (dlt c))]
    have eA : ∀ en : En, en.length = 19 → getS en 1 = some (.val (.dat (dealD ps R))) → lcT (runF tbl glb wf (n + 4)) glb (.call "name_at" (.cons (.var 1) (.cons (.var 17) .nil))) (.nm 17) .nil en (upto 0 90) st = .ok (rowN ps R 90, st) := fun en hL h1 => by
      rw [upto_map, lcT_map (fun c : Nat => .str (nm ps (dg R c)))]
      intro c hc
      have := List.mem_range.mp hc
      simp only [e_var, k_val, k_own, e_glb, k_glb, k_cb, e_int, e_str, e_bl, e_non, e_bin, k_bin, j_bin, e_neg, k_neg, e_nt, k_nt, e_and, e_or, and1, and2, and_t, and_f, or1, or2, or_f, or_t, e_cmp, k_cmp, j_cmp, e_chn, k_chn, j_chn, l_chn, l_chf, e_ite, ite_t, ite_f, e_tup, k_tup, j_tup, e_lst, k_lst, j_lst, e_idx, k_idx, j_idx, e_slc, k_slc, j_slc, l_slc, o_nil, o_one, k_o, e_call, k_call, e_bif, k_bif, e_mth, k_mth, j_mth, e_isi, k_isi, e_lc, k_lc, j_lc, k_lce, k_lca_t, k_lca_f, k_lcb, ts_nil, ts_one, k_tb, e_dg, k_dg, e_dn, el_nil, el_cons, k_el, j_el, er_nil, er_cons, k_er, j_er, i_r1, k_r1, i_r2, k_r2, j_r2, i_en, k_enl, k_ent, i_zp, k_zp, j_zp, l_zp_ll, l_zp_tt, l_zp_tl, l_zp_lt, i_it, k_it, j_it, s_nil, s_seq, k_sqn, k_sqr, k_sqb, k_nx, s_asn, s_aso, ea, k_ea_f, k_ea_t, k_as, s_ast, k_ag, s_par, k_pa, j_pa, l_pa, s_aug, k_au, j_aua, j_aus, s_app, k_ap, j_ap, s_sit, k_si, j_si, l_si, s_a2, k_a2, j_a2, l_a2, s_dp, k_dp, j_dp, s_exp, k_ex, s_iff, k_ift, k_iff, s_for, k_fo, k_foe, s_whl, s_ret, k_re, s_retN, s_brk, s_pass, getS_zero, getS_succ, isOwn, putS, dats, c_lt, c_le, c_gt, c_ge, c_is_none, c_is_int, c_is_str, c_is_tup, c_is_lst, c_is_bool, c_isnot_none, c_isnot_int, c_isnot_str, c_isnot_tup, c_isnot_lst, c_isnot_bool, c_in_sgn, c_eq, c_ne, eqOk_str, eqOk_sh, b_add, b_sub, b_mul, b_mod, b_div, b_addl, b_addt, b_rep, l_lst, l_tup, l_str, i_int, x_lst, x_tup, x_str, m_min, it_l, it_t, it_s, t_lst, q_lst, q_tup, bif_len, bif_int, bif_min, bif_max, bif_sum, bif_sorted, bif_all, bif_any, bif_tuple, bif_list, bif_divmod, mth_count, mth_index, mth_join, List.length_cons, List.length_nil, if_true, if_false, Bool.false_eq_true, Bool.or_false, Bool.false_or, Bool.or_self, List.set_cons_zero, List.set_cons_succ, List.map_cons, List.map_nil, frzS, bG_tp, bG_nm, bGs_nil, bGs_cons, ob_some, gd_t, ob_t, at20, at21, eq_self, and_self, and_true, true_and, decide_true, decide_false, Bool.not_true, Bool.not_false, isi_none_int, isi_none_bool, isi_none_str, isi_none_tuple, isi_none_list, isi_bool_int, isi_bool_bool, isi_bool_str, isi_bool_tuple, isi_bool_list, isi_int_int, isi_int_bool, isi_int_str, isi_int_tuple, isi_int_list, isi_str_int, isi_str_bool, isi_str_str, isi_str_tuple, isi_str_list, isi_tuple_int, isi_tuple_bool, isi_tuple_str, isi_tuple_tuple, isi_tuple_list, isi_list_int, isi_list_bool, isi_list_str, isi_list_tuple, isi_list_list, Option.map_some, bif_repr, getS_set, getS_frz, length_frz, List.length_set, List.length_map, line, Nat.reduceAdd, Nat.reduceLT, Nat.reduceLeDiff, Nat.reduceEqDiff, Nat.zero_le, Nat.zero_lt_succ, Int.reduceAdd, Int.reduceSub, Int.reduceLT, Int.reduceLE, Int.reduceToNat, Int.reduceNeg, fit_lit, fit62_lit, Bool.and_self, Bool.and_true, Bool.true_and, Bool.not_eq_true, wipe_len, wipe_nil, getS_wipe, hL, h1, ← hRd, s_nameD (c := c) h (by omega)]
    have eRn : ∀ en : En, en.length = 19 → getS en 1 = some (.val (.dat (dealD ps R))) → lcT (runF tbl glb wf (n + 4)) glb (.call "run_at" (.cons (.var 1) (.cons (.var 17) .nil))) (.nm 17) .nil en (upto 0 90) st = .ok (((List.range 90).map (pl R)).map fun p => .tuple [.int (p.1 : Int), .int (p.2 : Int)], st) := fun en hL h1 => by
      rw [upto_map, lcT_map (fun c : Nat => .tuple [.int ((pl R c).1 : Int), .int ((pl R c).2 : Int)])]
      · rw [List.map_map]; rfl
      intro c hc
      have := List.mem_range.mp hc
      simp only [e_var, k_val, k_own, e_glb, k_glb, k_cb, e_int, e_str, e_bl, e_non, e_bin, k_bin, j_bin, e_neg, k_neg, e_nt, k_nt, e_and, e_or, and1, and2, and_t, and_f, or1, or2, or_f, or_t, e_cmp, k_cmp, j_cmp, e_chn, k_chn, j_chn, l_chn, l_chf, e_ite, ite_t, ite_f, e_tup, k_tup, j_tup, e_lst, k_lst, j_lst, e_idx, k_idx, j_idx, e_slc, k_slc, j_slc, l_slc, o_nil, o_one, k_o, e_call, k_call, e_bif, k_bif, e_mth, k_mth, j_mth, e_isi, k_isi, e_lc, k_lc, j_lc, k_lce, k_lca_t, k_lca_f, k_lcb, ts_nil, ts_one, k_tb, e_dg, k_dg, e_dn, el_nil, el_cons, k_el, j_el, er_nil, er_cons, k_er, j_er, i_r1, k_r1, i_r2, k_r2, j_r2, i_en, k_enl, k_ent, i_zp, k_zp, j_zp, l_zp_ll, l_zp_tt, l_zp_tl, l_zp_lt, i_it, k_it, j_it, s_nil, s_seq, k_sqn, k_sqr, k_sqb, k_nx, s_asn, s_aso, ea, k_ea_f, k_ea_t, k_as, s_ast, k_ag, s_par, k_pa, j_pa, l_pa, s_aug, k_au, j_aua, j_aus, s_app, k_ap, j_ap, s_sit, k_si, j_si, l_si, s_a2, k_a2, j_a2, l_a2, s_dp, k_dp, j_dp, s_exp, k_ex, s_iff, k_ift, k_iff, s_for, k_fo, k_foe, s_whl, s_ret, k_re, s_retN, s_brk, s_pass, getS_zero, getS_succ, isOwn, putS, dats, c_lt, c_le, c_gt, c_ge, c_is_none, c_is_int, c_is_str, c_is_tup, c_is_lst, c_is_bool, c_isnot_none, c_isnot_int, c_isnot_str, c_isnot_tup, c_isnot_lst, c_isnot_bool, c_in_sgn, c_eq, c_ne, eqOk_str, eqOk_sh, b_add, b_sub, b_mul, b_mod, b_div, b_addl, b_addt, b_rep, l_lst, l_tup, l_str, i_int, x_lst, x_tup, x_str, m_min, it_l, it_t, it_s, t_lst, q_lst, q_tup, bif_len, bif_int, bif_min, bif_max, bif_sum, bif_sorted, bif_all, bif_any, bif_tuple, bif_list, bif_divmod, mth_count, mth_index, mth_join, List.length_cons, List.length_nil, if_true, if_false, Bool.false_eq_true, Bool.or_false, Bool.false_or, Bool.or_self, List.set_cons_zero, List.set_cons_succ, List.map_cons, List.map_nil, frzS, bG_tp, bG_nm, bGs_nil, bGs_cons, ob_some, gd_t, ob_t, at20, at21, eq_self, and_self, and_true, true_and, decide_true, decide_false, Bool.not_true, Bool.not_false, isi_none_int, isi_none_bool, isi_none_str, isi_none_tuple, isi_none_list, isi_bool_int, isi_bool_bool, isi_bool_str, isi_bool_tuple, isi_bool_list, isi_int_int, isi_int_bool, isi_int_str, isi_int_tuple, isi_int_list, isi_str_int, isi_str_bool, isi_str_str, isi_str_tuple, isi_str_list, isi_tuple_int, isi_tuple_bool, isi_tuple_str, isi_tuple_tuple, isi_tuple_list, isi_list_int, isi_list_bool, isi_list_str, isi_list_tuple, isi_list_list, Option.map_some, bif_repr, getS_set, getS_frz, length_frz, List.length_set, List.length_map, line, Nat.reduceAdd, Nat.reduceLT, Nat.reduceLeDiff, Nat.reduceEqDiff, Nat.zero_le, Nat.zero_lt_succ, Int.reduceAdd, Int.reduceSub, Int.reduceLT, Int.reduceLE, Int.reduceToNat, Int.reduceNeg, fit_lit, fit62_lit, Bool.and_self, Bool.and_true, Bool.true_and, Bool.not_eq_true, wipe_len, wipe_nil, getS_wipe, hL, h1, ← hRd, s_runD (c := c) h (by omega)]
    have ePl : runF tbl glb wf (n + 4) "_law_places" [.dat (rsD R), .dat (.int 90)] st = .ok (.dat (.list (((List.range 90).map (pl R)).map fun p => .tuple [.int (p.1 : Int), .int (p.2 : Int)])), st) := by
      have := s_places (wf := wf) (n := n + 3) (st := st) (R := R) (size := 90) (hRd ▸ h.sz) (by decide)
      rw [← hRd, places_eq hG] at this
      rw [← hRd]
      exact this
    have eRP : runF tbl glb wf (n + 4) "row_part" [.dat (dealD ps R), .dat (.int 0), .dat (.int 90)] st = .ok (.dat (.tuple (rowN ps R 90)), st) := by
      have := s_row_part (wf := wf) (n := n) (st := st) (b := 0) (k := 90) h (by decide) (by decide)
      simp only [Nat.zero_add] at this
      rw [← hRd]
      exact this
    have eHs : ∀ (en : En) (st : Sto), en.length = 19 → getS en 1 = some (.val (.dat (dealD ps R))) → lcT (runF tbl glb wf (n + 4)) glb (.call "has" (.cons (.var 1) (.cons (.var 17) .nil))) (.nm 17) .nil en (upto 0 91) st = .ok ((List.range 91).map (hasT ps.length R), st) := fun en st hL h1 => by
      rw [upto_map, lcT_map (fun c : Nat => hasT ps.length R c)]
      intro c hc
      have := List.mem_range.mp hc
      simp only [e_var, k_val, k_own, e_glb, k_glb, k_cb, e_int, e_str, e_bl, e_non, e_bin, k_bin, j_bin, e_neg, k_neg, e_nt, k_nt, e_and, e_or, and1, and2, and_t, and_f, or1, or2, or_f, or_t, e_cmp, k_cmp, j_cmp, e_chn, k_chn, j_chn, l_chn, l_chf, e_ite, ite_t, ite_f, e_tup, k_tup, j_tup, e_lst, k_lst, j_lst, e_idx, k_idx, j_idx, e_slc, k_slc, j_slc, l_slc, o_nil, o_one, k_o, e_call, k_call, e_bif, k_bif, e_mth, k_mth, j_mth, e_isi, k_isi, e_lc, k_lc, j_lc, k_lce, k_lca_t, k_lca_f, k_lcb, ts_nil, ts_one, k_tb, e_dg, k_dg, e_dn, el_nil, el_cons, k_el, j_el, er_nil, er_cons, k_er, j_er, i_r1, k_r1, i_r2, k_r2, j_r2, i_en, k_enl, k_ent, i_zp, k_zp, j_zp, l_zp_ll, l_zp_tt, l_zp_tl, l_zp_lt, i_it, k_it, j_it, s_nil, s_seq, k_sqn, k_sqr, k_sqb, k_nx, s_asn, s_aso, ea, k_ea_f, k_ea_t, k_as, s_ast, k_ag, s_par, k_pa, j_pa, l_pa, s_aug, k_au, j_aua, j_aus, s_app, k_ap, j_ap, s_sit, k_si, j_si, l_si, s_a2, k_a2, j_a2, l_a2, s_dp, k_dp, j_dp, s_exp, k_ex, s_iff, k_ift, k_iff, s_for, k_fo, k_foe, s_whl, s_ret, k_re, s_retN, s_brk, s_pass, getS_zero, getS_succ, isOwn, putS, dats, c_lt, c_le, c_gt, c_ge, c_is_none, c_is_int, c_is_str, c_is_tup, c_is_lst, c_is_bool, c_isnot_none, c_isnot_int, c_isnot_str, c_isnot_tup, c_isnot_lst, c_isnot_bool, c_in_sgn, c_eq, c_ne, eqOk_str, eqOk_sh, b_add, b_sub, b_mul, b_mod, b_div, b_addl, b_addt, b_rep, l_lst, l_tup, l_str, i_int, x_lst, x_tup, x_str, m_min, it_l, it_t, it_s, t_lst, q_lst, q_tup, bif_len, bif_int, bif_min, bif_max, bif_sum, bif_sorted, bif_all, bif_any, bif_tuple, bif_list, bif_divmod, mth_count, mth_index, mth_join, List.length_cons, List.length_nil, if_true, if_false, Bool.false_eq_true, Bool.or_false, Bool.false_or, Bool.or_self, List.set_cons_zero, List.set_cons_succ, List.map_cons, List.map_nil, frzS, bG_tp, bG_nm, bGs_nil, bGs_cons, ob_some, gd_t, ob_t, at20, at21, eq_self, and_self, and_true, true_and, decide_true, decide_false, Bool.not_true, Bool.not_false, isi_none_int, isi_none_bool, isi_none_str, isi_none_tuple, isi_none_list, isi_bool_int, isi_bool_bool, isi_bool_str, isi_bool_tuple, isi_bool_list, isi_int_int, isi_int_bool, isi_int_str, isi_int_tuple, isi_int_list, isi_str_int, isi_str_bool, isi_str_str, isi_str_tuple, isi_str_list, isi_tuple_int, isi_tuple_bool, isi_tuple_str, isi_tuple_tuple, isi_tuple_list, isi_list_int, isi_list_bool, isi_list_str, isi_list_tuple, isi_list_list, Option.map_some, bif_repr, getS_set, getS_frz, length_frz, List.length_set, List.length_map, line, Nat.reduceAdd, Nat.reduceLT, Nat.reduceLeDiff, Nat.reduceEqDiff, Nat.zero_le, Nat.zero_lt_succ, Int.reduceAdd, Int.reduceSub, Int.reduceLT, Int.reduceLE, Int.reduceToNat, Int.reduceNeg, fit_lit, fit62_lit, Bool.and_self, Bool.and_true, Bool.true_and, Bool.not_eq_true, wipe_len, wipe_nil, getS_wipe, hL, h1, ← hRd, s_has (c := (c : Int)) h (by omega) (by omega), hasT_eq]
    have nRow : Ni 1 1000 (.list (rowN ps R 90)) := (Ni.list (n := 90) (fun x hx => by
      obtain ⟨c, _, rfl⟩ := List.mem_map.mp hx
      exact hp.nice _ (dlt c)) (by simp)).mono (Nat.le_refl _) (by decide)
    have nRowT : Ni 1 1000 (.tuple (rowN ps R 90)) := (Ni.tuple (n := 90) (fun x hx => by
      obtain ⟨c, _, rfl⟩ := List.mem_map.mp hx
      exact hp.nice _ (dlt c)) (by simp)).mono (Nat.le_refl _) (by decide)
    have nPl : Ni 2 60000 (.list (((List.range 90).map (pl R)).map fun p => .tuple [.int (p.1 : Int), .int (p.2 : Int)])) := (Ni.list (n := 90) (D := 1) (B := 283) (fun x hx => by
      obtain ⟨p, hp2, rfl⟩ := List.mem_map.mp hx
      obtain ⟨c, hc, rfl⟩ := List.mem_map.mp hp2
      have := List.mem_range.mp hc
      have hb2 := pl_le hG c
      have hfew := h.few
      rw [hRd] at hb2
      exact Ni.pair (Ni.int (by omega)) (Ni.int (by omega))) (by simp)).mono (Nat.le_refl _) (by decide)
    have cz : ∀ d, cby R d ((0 : Nat) : Int) = 0 := fun d => by rw [← hRd]; exact cby_zero (full_nn hG) d
    have nHas : Ni 2 90000 (.list ((List.range 91).map (hasT ps.length R))) := (Ni.list (n := 91) (fun x hx => by
      obtain ⟨c, hc, rfl⟩ := List.mem_map.mp hx
      have := List.mem_range.mp hc
      rw [← hRd]
      exact ni_hasT hG m6 (by omega)) (by simp)).mono (Nat.le_refl _) (by decide)
    simp only [e_var, k_val, k_own, e_glb, k_glb, k_cb, e_int, e_str, e_bl, e_non, e_bin, k_bin, j_bin, e_neg, k_neg, e_nt, k_nt, e_and, e_or, and1, and2, and_t, and_f, or1, or2, or_f, or_t, e_cmp, k_cmp, j_cmp, e_chn, k_chn, j_chn, l_chn, l_chf, e_ite, ite_t, ite_f, e_tup, k_tup, j_tup, e_lst, k_lst, j_lst, e_idx, k_idx, j_idx, e_slc, k_slc, j_slc, l_slc, o_nil, o_one, k_o, e_call, k_call, e_bif, k_bif, e_mth, k_mth, j_mth, e_isi, k_isi, e_lc, k_lc, j_lc, k_lce, k_lca_t, k_lca_f, k_lcb, ts_nil, ts_one, k_tb, e_dg, k_dg, e_dn, el_nil, el_cons, k_el, j_el, er_nil, er_cons, k_er, j_er, i_r1, k_r1, i_r2, k_r2, j_r2, i_en, k_enl, k_ent, i_zp, k_zp, j_zp, l_zp_ll, l_zp_tt, l_zp_tl, l_zp_lt, i_it, k_it, j_it, s_nil, s_seq, k_sqn, k_sqr, k_sqb, k_nx, s_asn, s_aso, ea, k_ea_f, k_ea_t, k_as, s_ast, k_ag, s_par, k_pa, j_pa, l_pa, s_aug, k_au, j_aua, j_aus, s_app, k_ap, j_ap, s_sit, k_si, j_si, l_si, s_a2, k_a2, j_a2, l_a2, s_dp, k_dp, j_dp, s_exp, k_ex, s_iff, k_ift, k_iff, s_for, k_fo, k_foe, s_whl, s_ret, k_re, s_retN, s_brk, s_pass, getS_zero, getS_succ, isOwn, putS, dats, c_lt, c_le, c_gt, c_ge, c_is_none, c_is_int, c_is_str, c_is_tup, c_is_lst, c_is_bool, c_isnot_none, c_isnot_int, c_isnot_str, c_isnot_tup, c_isnot_lst, c_isnot_bool, c_in_sgn, c_eq, c_ne, eqOk_str, eqOk_sh, b_add, b_sub, b_mul, b_mod, b_div, b_addl, b_addt, b_rep, l_lst, l_tup, l_str, i_int, x_lst, x_tup, x_str, m_min, it_l, it_t, it_s, t_lst, q_lst, q_tup, bif_len, bif_int, bif_min, bif_max, bif_sum, bif_sorted, bif_all, bif_any, bif_tuple, bif_list, bif_divmod, mth_count, mth_index, mth_join, List.length_cons, List.length_nil, if_true, if_false, Bool.false_eq_true, Bool.or_false, Bool.false_or, Bool.or_self, List.set_cons_zero, List.set_cons_succ, List.map_cons, List.map_nil, frzS, bG_tp, bG_nm, bGs_nil, bGs_cons, ob_some, gd_t, ob_t, at20, at21, eq_self, and_self, and_true, true_and, decide_true, decide_false, Bool.not_true, Bool.not_false, isi_none_int, isi_none_bool, isi_none_str, isi_none_tuple, isi_none_list, isi_bool_int, isi_bool_bool, isi_bool_str, isi_bool_tuple, isi_bool_list, isi_int_int, isi_int_bool, isi_int_str, isi_int_tuple, isi_int_list, isi_str_int, isi_str_bool, isi_str_str, isi_str_tuple, isi_str_list, isi_tuple_int, isi_tuple_bool, isi_tuple_str, isi_tuple_tuple, isi_tuple_list, isi_list_int, isi_list_bool, isi_list_str, isi_list_tuple, isi_list_list, Option.map_some, bif_repr, getS_set, getS_frz, length_frz, List.length_set, List.length_map, line, Nat.reduceAdd, Nat.reduceLT, Nat.reduceLeDiff, Nat.reduceEqDiff, Nat.zero_le, Nat.zero_lt_succ, Int.reduceAdd, Int.reduceSub, Int.reduceLT, Int.reduceLE, Int.reduceToNat, Int.reduceNeg, fit_lit, fit62_lit, Bool.and_self, Bool.and_true, Bool.true_and, Bool.not_eq_true, wipe_len, wipe_nil, getS_wipe, ir__law_right, bG_deal, l_ps, eRow]
    rw [eNm _ (by simp only [e_var, k_val, k_own, e_glb, k_glb, k_cb, e_int, e_str, e_bl, e_non, e_bin, k_bin, j_bin, e_neg, k_neg, e_nt, k_nt, e_and, e_or, and1, and2, and_t, and_f, or1, or2, or_f, or_t, e_cmp, k_cmp, j_cmp, e_chn, k_chn, j_chn, l_chn, l_chf, e_ite, ite_t, ite_f, e_tup, k_tup, j_tup, e_lst, k_lst, j_lst, e_idx, k_idx, j_idx, e_slc, k_slc, j_slc, l_slc, o_nil, o_one, k_o, e_call, k_call, e_bif, k_bif, e_mth, k_mth, j_mth, e_isi, k_isi, e_lc, k_lc, j_lc, k_lce, k_lca_t, k_lca_f, k_lcb, ts_nil, ts_one, k_tb, e_dg, k_dg, e_dn, el_nil, el_cons, k_el, j_el, er_nil, er_cons, k_er, j_er, i_r1, k_r1, i_r2, k_r2, j_r2, i_en, k_enl, k_ent, i_zp, k_zp, j_zp, l_zp_ll, l_zp_tt, l_zp_tl, l_zp_lt, i_it, k_it, j_it, s_nil, s_seq, k_sqn, k_sqr, k_sqb, k_nx, s_asn, s_aso, ea, k_ea_f, k_ea_t, k_as, s_ast, k_ag, s_par, k_pa, j_pa, l_pa, s_aug, k_au, j_aua, j_aus, s_app, k_ap, j_ap, s_sit, k_si, j_si, l_si, s_a2, k_a2, j_a2, l_a2, s_dp, k_dp, j_dp, s_exp, k_ex, s_iff, k_ift, k_iff, s_for, k_fo, k_foe, s_whl, s_ret, k_re, s_retN, s_brk, s_pass, getS_zero, getS_succ, isOwn, putS, dats, c_lt, c_le, c_gt, c_ge, c_is_none, c_is_int, c_is_str, c_is_tup, c_is_lst, c_is_bool, c_isnot_none, c_isnot_int, c_isnot_str, c_isnot_tup, c_isnot_lst, c_isnot_bool, c_in_sgn, c_eq, c_ne, eqOk_str, eqOk_sh, b_add, b_sub, b_mul, b_mod, b_div, b_addl, b_addt, b_rep, l_lst, l_tup, l_str, i_int, x_lst, x_tup, x_str, m_min, it_l, it_t, it_s, t_lst, q_lst, q_tup, bif_len, bif_int, bif_min, bif_max, bif_sum, bif_sorted, bif_all, bif_any, bif_tuple, bif_list, bif_divmod, mth_count, mth_index, mth_join, List.length_cons, List.length_nil, if_true, if_false, Bool.false_eq_true, Bool.or_false, Bool.false_or, Bool.or_self, List.set_cons_zero, List.set_cons_succ, List.map_cons, List.map_nil, frzS, bG_tp, bG_nm, bGs_nil, bGs_cons, ob_some, gd_t, ob_t, at20, at21, eq_self, and_self, and_true, true_and, decide_true, decide_false, Bool.not_true, Bool.not_false, isi_none_int, isi_none_bool, isi_none_str, isi_none_tuple, isi_none_list, isi_bool_int, isi_bool_bool, isi_bool_str, isi_bool_tuple, isi_bool_list, isi_int_int, isi_int_bool, isi_int_str, isi_int_tuple, isi_int_list, isi_str_int, isi_str_bool, isi_str_str, isi_str_tuple, isi_str_list, isi_tuple_int, isi_tuple_bool, isi_tuple_str, isi_tuple_tuple, isi_tuple_list, isi_list_int, isi_list_bool, isi_list_str, isi_list_tuple, isi_list_list, Option.map_some, bif_repr, getS_set, getS_frz, length_frz, List.length_set, List.length_map, line, Nat.reduceAdd, Nat.reduceLT, Nat.reduceLeDiff, Nat.reduceEqDiff, Nat.zero_le, Nat.zero_lt_succ, Int.reduceAdd, Int.reduceSub, Int.reduceLT, Int.reduceLE, Int.reduceToNat, Int.reduceNeg, fit_lit, fit62_lit, Bool.and_self, Bool.and_true, Bool.true_and, Bool.not_eq_true, wipe_len, wipe_nil, getS_wipe]) (by simp only [e_var, k_val, k_own, e_glb, k_glb, k_cb, e_int, e_str, e_bl, e_non, e_bin, k_bin, j_bin, e_neg, k_neg, e_nt, k_nt, e_and, e_or, and1, and2, and_t, and_f, or1, or2, or_f, or_t, e_cmp, k_cmp, j_cmp, e_chn, k_chn, j_chn, l_chn, l_chf, e_ite, ite_t, ite_f, e_tup, k_tup, j_tup, e_lst, k_lst, j_lst, e_idx, k_idx, j_idx, e_slc, k_slc, j_slc, l_slc, o_nil, o_one, k_o, e_call, k_call, e_bif, k_bif, e_mth, k_mth, j_mth, e_isi, k_isi, e_lc, k_lc, j_lc, k_lce, k_lca_t, k_lca_f, k_lcb, ts_nil, ts_one, k_tb, e_dg, k_dg, e_dn, el_nil, el_cons, k_el, j_el, er_nil, er_cons, k_er, j_er, i_r1, k_r1, i_r2, k_r2, j_r2, i_en, k_enl, k_ent, i_zp, k_zp, j_zp, l_zp_ll, l_zp_tt, l_zp_tl, l_zp_lt, i_it, k_it, j_it, s_nil, s_seq, k_sqn, k_sqr, k_sqb, k_nx, s_asn, s_aso, ea, k_ea_f, k_ea_t, k_as, s_ast, k_ag, s_par, k_pa, j_pa, l_pa, s_aug, k_au, j_aua, j_aus, s_app, k_ap, j_ap, s_sit, k_si, j_si, l_si, s_a2, k_a2, j_a2, l_a2, s_dp, k_dp, j_dp, s_exp, k_ex, s_iff, k_ift, k_iff, s_for, k_fo, k_foe, s_whl, s_ret, k_re, s_retN, s_brk, s_pass, getS_zero, getS_succ, isOwn, putS, dats, c_lt, c_le, c_gt, c_ge, c_is_none, c_is_int, c_is_str, c_is_tup, c_is_lst, c_is_bool, c_isnot_none, c_isnot_int, c_isnot_str, c_isnot_tup, c_isnot_lst, c_isnot_bool, c_in_sgn, c_eq, c_ne, eqOk_str, eqOk_sh, b_add, b_sub, b_mul, b_mod, b_div, b_addl, b_addt, b_rep, l_lst, l_tup, l_str, i_int, x_lst, x_tup, x_str, m_min, it_l, it_t, it_s, t_lst, q_lst, q_tup, bif_len, bif_int, bif_min, bif_max, bif_sum, bif_sorted, bif_all, bif_any, bif_tuple, bif_list, bif_divmod, mth_count, mth_index, mth_join, List.length_cons, List.length_nil, if_true, if_false, Bool.false_eq_true, Bool.or_false, Bool.false_or, Bool.or_self, List.set_cons_zero, List.set_cons_succ, List.map_cons, List.map_nil, frzS, bG_tp, bG_nm, bGs_nil, bGs_cons, ob_some, gd_t, ob_t, at20, at21, eq_self, and_self, and_true, true_and, decide_true, decide_false, Bool.not_true, Bool.not_false, isi_none_int, isi_none_bool, isi_none_str, isi_none_tuple, isi_none_list, isi_bool_int, isi_bool_bool, isi_bool_str, isi_bool_tuple, isi_bool_list, isi_int_int, isi_int_bool, isi_int_str, isi_int_tuple, isi_int_list, isi_str_int, isi_str_bool, isi_str_str, isi_str_tuple, isi_str_list, isi_tuple_int, isi_tuple_bool, isi_tuple_str, isi_tuple_tuple, isi_tuple_list, isi_list_int, isi_list_bool, isi_list_str, isi_list_tuple, isi_list_list, Option.map_some, bif_repr, getS_set, getS_frz, length_frz, List.length_set, List.length_map, line, Nat.reduceAdd, Nat.reduceLT, Nat.reduceLeDiff, Nat.reduceEqDiff, Nat.zero_le, Nat.zero_lt_succ, Int.reduceAdd, Int.reduceSub, Int.reduceLT, Int.reduceLE, Int.reduceToNat, Int.reduceNeg, fit_lit, fit62_lit, Bool.and_self, Bool.and_true, Bool.true_and, Bool.not_eq_true, wipe_len, wipe_nil, getS_wipe])]
    simp (disch := first | assumption | omega) only [e_var, k_val, k_own, e_glb, k_glb, k_cb, e_int, e_str, e_bl, e_non, e_bin, k_bin, j_bin, e_neg, k_neg, e_nt, k_nt, e_and, e_or, and1, and2, and_t, and_f, or1, or2, or_f, or_t, e_cmp, k_cmp, j_cmp, e_chn, k_chn, j_chn, l_chn, l_chf, e_ite, ite_t, ite_f, e_tup, k_tup, j_tup, e_lst, k_lst, j_lst, e_idx, k_idx, j_idx, e_slc, k_slc, j_slc, l_slc, o_nil, o_one, k_o, e_call, k_call, e_bif, k_bif, e_mth, k_mth, j_mth, e_isi, k_isi, e_lc, k_lc, j_lc, k_lce, k_lca_t, k_lca_f, k_lcb, ts_nil, ts_one, k_tb, e_dg, k_dg, e_dn, el_nil, el_cons, k_el, j_el, er_nil, er_cons, k_er, j_er, i_r1, k_r1, i_r2, k_r2, j_r2, i_en, k_enl, k_ent, i_zp, k_zp, j_zp, l_zp_ll, l_zp_tt, l_zp_tl, l_zp_lt, i_it, k_it, j_it, s_nil, s_seq, k_sqn, k_sqr, k_sqb, k_nx, s_asn, s_aso, ea, k_ea_f, k_ea_t, k_as, s_ast, k_ag, s_par, k_pa, j_pa, l_pa, s_aug, k_au, j_aua, j_aus, s_app, k_ap, j_ap, s_sit, k_si, j_si, l_si, s_a2, k_a2, j_a2, l_a2, s_dp, k_dp, j_dp, s_exp, k_ex, s_iff, k_ift, k_iff, s_for, k_fo, k_foe, s_whl, s_ret, k_re, s_retN, s_brk, s_pass, getS_zero, getS_succ, isOwn, putS, dats, c_lt, c_le, c_gt, c_ge, c_is_none, c_is_int, c_is_str, c_is_tup, c_is_lst, c_is_bool, c_isnot_none, c_isnot_int, c_isnot_str, c_isnot_tup, c_isnot_lst, c_isnot_bool, c_in_sgn, c_eq, c_ne, eqOk_str, eqOk_sh, b_add, b_sub, b_mul, b_mod, b_div, b_addl, b_addt, b_rep, l_lst, l_tup, l_str, i_int, x_lst, x_tup, x_str, m_min, it_l, it_t, it_s, t_lst, q_lst, q_tup, bif_len, bif_int, bif_min, bif_max, bif_sum, bif_sorted, bif_all, bif_any, bif_tuple, bif_list, bif_divmod, mth_count, mth_index, mth_join, List.length_cons, List.length_nil, if_true, if_false, Bool.false_eq_true, Bool.or_false, Bool.false_or, Bool.or_self, List.set_cons_zero, List.set_cons_succ, List.map_cons, List.map_nil, frzS, bG_tp, bG_nm, bGs_nil, bGs_cons, ob_some, gd_t, ob_t, at20, at21, eq_self, and_self, and_true, true_and, decide_true, decide_false, Bool.not_true, Bool.not_false, isi_none_int, isi_none_bool, isi_none_str, isi_none_tuple, isi_none_list, isi_bool_int, isi_bool_bool, isi_bool_str, isi_bool_tuple, isi_bool_list, isi_int_int, isi_int_bool, isi_int_str, isi_int_tuple, isi_int_list, isi_str_int, isi_str_bool, isi_str_str, isi_str_tuple, isi_str_list, isi_tuple_int, isi_tuple_bool, isi_tuple_str, isi_tuple_tuple, isi_tuple_list, isi_list_int, isi_list_bool, isi_list_str, isi_list_tuple, isi_list_list, Option.map_some, bif_repr, getS_set, getS_frz, length_frz, List.length_set, List.length_map, line, Nat.reduceAdd, Nat.reduceLT, Nat.reduceLeDiff, Nat.reduceEqDiff, Nat.zero_le, Nat.zero_lt_succ, Int.reduceAdd, Int.reduceSub, Int.reduceLT, Int.reduceLE, Int.reduceToNat, Int.reduceNeg, fit_lit, fit62_lit, Bool.and_self, Bool.and_true, Bool.true_and, Bool.not_eq_true, wipe_len, wipe_nil, getS_wipe, ite_line, ite_ltline, fit62_of, fitI_of, mod_pos, ite_and, dec_le, dec_nle, dec_lt, dec_nlt, dec_eq, dec_neq, ite_le, ite_nle, ite_lt, ite_nlt, List.length_range]
    rw [eA _ (by simp only [e_var, k_val, k_own, e_glb, k_glb, k_cb, e_int, e_str, e_bl, e_non, e_bin, k_bin, j_bin, e_neg, k_neg, e_nt, k_nt, e_and, e_or, and1, and2, and_t, and_f, or1, or2, or_f, or_t, e_cmp, k_cmp, j_cmp, e_chn, k_chn, j_chn, l_chn, l_chf, e_ite, ite_t, ite_f, e_tup, k_tup, j_tup, e_lst, k_lst, j_lst, e_idx, k_idx, j_idx, e_slc, k_slc, j_slc, l_slc, o_nil, o_one, k_o, e_call, k_call, e_bif, k_bif, e_mth, k_mth, j_mth, e_isi, k_isi, e_lc, k_lc, j_lc, k_lce, k_lca_t, k_lca_f, k_lcb, ts_nil, ts_one, k_tb, e_dg, k_dg, e_dn, el_nil, el_cons, k_el, j_el, er_nil, er_cons, k_er, j_er, i_r1, k_r1, i_r2, k_r2, j_r2, i_en, k_enl, k_ent, i_zp, k_zp, j_zp, l_zp_ll, l_zp_tt, l_zp_tl, l_zp_lt, i_it, k_it, j_it, s_nil, s_seq, k_sqn, k_sqr, k_sqb, k_nx, s_asn, s_aso, ea, k_ea_f, k_ea_t, k_as, s_ast, k_ag, s_par, k_pa, j_pa, l_pa, s_aug, k_au, j_aua, j_aus, s_app, k_ap, j_ap, s_sit, k_si, j_si, l_si, s_a2, k_a2, j_a2, l_a2, s_dp, k_dp, j_dp, s_exp, k_ex, s_iff, k_ift, k_iff, s_for, k_fo, k_foe, s_whl, s_ret, k_re, s_retN, s_brk, s_pass, getS_zero, getS_succ, isOwn, putS, dats, c_lt, c_le, c_gt, c_ge, c_is_none, c_is_int, c_is_str, c_is_tup, c_is_lst, c_is_bool, c_isnot_none, c_isnot_int, c_isnot_str, c_isnot_tup, c_isnot_lst, c_isnot_bool, c_in_sgn, c_eq, c_ne, eqOk_str, eqOk_sh, b_add, b_sub, b_mul, b_mod, b_div, b_addl, b_addt, b_rep, l_lst, l_tup, l_str, i_int, x_lst, x_tup, x_str, m_min, it_l, it_t, it_s, t_lst, q_lst, q_tup, bif_len, bif_int, bif_min, bif_max, bif_sum, bif_sorted, bif_all, bif_any, bif_tuple, bif_list, bif_divmod, mth_count, mth_index, mth_join, List.length_cons, List.length_nil, if_true, if_false, Bool.false_eq_true, Bool.or_false, Bool.false_or, Bool.or_self, List.set_cons_zero, List.set_cons_succ, List.map_cons, List.map_nil, frzS, bG_tp, bG_nm, bGs_nil, bGs_cons, ob_some, gd_t, ob_t, at20, at21, eq_self, and_self, and_true, true_and, decide_true, decide_false, Bool.not_true, Bool.not_false, isi_none_int, isi_none_bool, isi_none_str, isi_none_tuple, isi_none_list, isi_bool_int, isi_bool_bool, isi_bool_str, isi_bool_tuple, isi_bool_list, isi_int_int, isi_int_bool, isi_int_str, isi_int_tuple, isi_int_list, isi_str_int, isi_str_bool, isi_str_str, isi_str_tuple, isi_str_list, isi_tuple_int, isi_tuple_bool, isi_tuple_str, isi_tuple_tuple, isi_tuple_list, isi_list_int, isi_list_bool, isi_list_str, isi_list_tuple, isi_list_list, Option.map_some, bif_repr, getS_set, getS_frz, length_frz, List.length_set, List.length_map, line, Nat.reduceAdd, Nat.reduceLT, Nat.reduceLeDiff, Nat.reduceEqDiff, Nat.zero_le, Nat.zero_lt_succ, Int.reduceAdd, Int.reduceSub, Int.reduceLT, Int.reduceLE, Int.reduceToNat, Int.reduceNeg, fit_lit, fit62_lit, Bool.and_self, Bool.and_true, Bool.true_and, Bool.not_eq_true, wipe_len, wipe_nil, getS_wipe]) (by simp only [e_var, k_val, k_own, e_glb, k_glb, k_cb, e_int, e_str, e_bl, e_non, e_bin, k_bin, j_bin, e_neg, k_neg, e_nt, k_nt, e_and, e_or, and1, and2, and_t, and_f, or1, or2, or_f, or_t, e_cmp, k_cmp, j_cmp, e_chn, k_chn, j_chn, l_chn, l_chf, e_ite, ite_t, ite_f, e_tup, k_tup, j_tup, e_lst, k_lst, j_lst, e_idx, k_idx, j_idx, e_slc, k_slc, j_slc, l_slc, o_nil, o_one, k_o, e_call, k_call, e_bif, k_bif, e_mth, k_mth, j_mth, e_isi, k_isi, e_lc, k_lc, j_lc, k_lce, k_lca_t, k_lca_f, k_lcb, ts_nil, ts_one, k_tb, e_dg, k_dg, e_dn, el_nil, el_cons, k_el, j_el, er_nil, er_cons, k_er, j_er, i_r1, k_r1, i_r2, k_r2, j_r2, i_en, k_enl, k_ent, i_zp, k_zp, j_zp, l_zp_ll, l_zp_tt, l_zp_tl, l_zp_lt, i_it, k_it, j_it, s_nil, s_seq, k_sqn, k_sqr, k_sqb, k_nx, s_asn, s_aso, ea, k_ea_f, k_ea_t, k_as, s_ast, k_ag, s_par, k_pa, j_pa, l_pa, s_aug, k_au, j_aua, j_aus, s_app, k_ap, j_ap, s_sit, k_si, j_si, l_si, s_a2, k_a2, j_a2, l_a2, s_dp, k_dp, j_dp, s_exp, k_ex, s_iff, k_ift, k_iff, s_for, k_fo, k_foe, s_whl, s_ret, k_re, s_retN, s_brk, s_pass, getS_zero, getS_succ, isOwn, putS, dats, c_lt, c_le, c_gt, c_ge, c_is_none, c_is_int, c_is_str, c_is_tup, c_is_lst, c_is_bool, c_isnot_none, c_isnot_int, c_isnot_str, c_isnot_tup, c_isnot_lst, c_isnot_bool, c_in_sgn, c_eq, c_ne, eqOk_str, eqOk_sh, b_add, b_sub, b_mul, b_mod, b_div, b_addl, b_addt, b_rep, l_lst, l_tup, l_str, i_int, x_lst, x_tup, x_str, m_min, it_l, it_t, it_s, t_lst, q_lst, q_tup, bif_len, bif_int, bif_min, bif_max, bif_sum, bif_sorted, bif_all, bif_any, bif_tuple, bif_list, bif_divmod, mth_count, mth_index, mth_join, List.length_cons, List.length_nil, if_true, if_false, Bool.false_eq_true, Bool.or_false, Bool.false_or, Bool.or_self, List.set_cons_zero, List.set_cons_succ, List.map_cons, List.map_nil, frzS, bG_tp, bG_nm, bGs_nil, bGs_cons, ob_some, gd_t, ob_t, at20, at21, eq_self, and_self, and_true, true_and, decide_true, decide_false, Bool.not_true, Bool.not_false, isi_none_int, isi_none_bool, isi_none_str, isi_none_tuple, isi_none_list, isi_bool_int, isi_bool_bool, isi_bool_str, isi_bool_tuple, isi_bool_list, isi_int_int, isi_int_bool, isi_int_str, isi_int_tuple, isi_int_list, isi_str_int, isi_str_bool, isi_str_str, isi_str_tuple, isi_str_list, isi_tuple_int, isi_tuple_bool, isi_tuple_str, isi_tuple_tuple, isi_tuple_list, isi_list_int, isi_list_bool, isi_list_str, isi_list_tuple, isi_list_list, Option.map_some, bif_repr, getS_set, getS_frz, length_frz, List.length_set, List.length_map, line, Nat.reduceAdd, Nat.reduceLT, Nat.reduceLeDiff, Nat.reduceEqDiff, Nat.zero_le, Nat.zero_lt_succ, Int.reduceAdd, Int.reduceSub, Int.reduceLT, Int.reduceLE, Int.reduceToNat, Int.reduceNeg, fit_lit, fit62_lit, Bool.and_self, Bool.and_true, Bool.true_and, Bool.not_eq_true, wipe_len, wipe_nil, getS_wipe])]
    simp (disch := first | assumption | omega) only [e_var, k_val, k_own, e_glb, k_glb, k_cb, e_int, e_str, e_bl, e_non, e_bin, k_bin, j_bin, e_neg, k_neg, e_nt, k_nt, e_and, e_or, and1, and2, and_t, and_f, or1, or2, or_f, or_t, e_cmp, k_cmp, j_cmp, e_chn, k_chn, j_chn, l_chn, l_chf, e_ite, ite_t, ite_f, e_tup, k_tup, j_tup, e_lst, k_lst, j_lst, e_idx, k_idx, j_idx, e_slc, k_slc, j_slc, l_slc, o_nil, o_one, k_o, e_call, k_call, e_bif, k_bif, e_mth, k_mth, j_mth, e_isi, k_isi, e_lc, k_lc, j_lc, k_lce, k_lca_t, k_lca_f, k_lcb, ts_nil, ts_one, k_tb, e_dg, k_dg, e_dn, el_nil, el_cons, k_el, j_el, er_nil, er_cons, k_er, j_er, i_r1, k_r1, i_r2, k_r2, j_r2, i_en, k_enl, k_ent, i_zp, k_zp, j_zp, l_zp_ll, l_zp_tt, l_zp_tl, l_zp_lt, i_it, k_it, j_it, s_nil, s_seq, k_sqn, k_sqr, k_sqb, k_nx, s_asn, s_aso, ea, k_ea_f, k_ea_t, k_as, s_ast, k_ag, s_par, k_pa, j_pa, l_pa, s_aug, k_au, j_aua, j_aus, s_app, k_ap, j_ap, s_sit, k_si, j_si, l_si, s_a2, k_a2, j_a2, l_a2, s_dp, k_dp, j_dp, s_exp, k_ex, s_iff, k_ift, k_iff, s_for, k_fo, k_foe, s_whl, s_ret, k_re, s_retN, s_brk, s_pass, getS_zero, getS_succ, isOwn, putS, dats, c_lt, c_le, c_gt, c_ge, c_is_none, c_is_int, c_is_str, c_is_tup, c_is_lst, c_is_bool, c_isnot_none, c_isnot_int, c_isnot_str, c_isnot_tup, c_isnot_lst, c_isnot_bool, c_in_sgn, c_eq, c_ne, eqOk_str, eqOk_sh, b_add, b_sub, b_mul, b_mod, b_div, b_addl, b_addt, b_rep, l_lst, l_tup, l_str, i_int, x_lst, x_tup, x_str, m_min, it_l, it_t, it_s, t_lst, q_lst, q_tup, bif_len, bif_int, bif_min, bif_max, bif_sum, bif_sorted, bif_all, bif_any, bif_tuple, bif_list, bif_divmod, mth_count, mth_index, mth_join, List.length_cons, List.length_nil, if_true, if_false, Bool.false_eq_true, Bool.or_false, Bool.false_or, Bool.or_self, List.set_cons_zero, List.set_cons_succ, List.map_cons, List.map_nil, frzS, bG_tp, bG_nm, bGs_nil, bGs_cons, ob_some, gd_t, ob_t, at20, at21, eq_self, and_self, and_true, true_and, decide_true, decide_false, Bool.not_true, Bool.not_false, isi_none_int, isi_none_bool, isi_none_str, isi_none_tuple, isi_none_list, isi_bool_int, isi_bool_bool, isi_bool_str, isi_bool_tuple, isi_bool_list, isi_int_int, isi_int_bool, isi_int_str, isi_int_tuple, isi_int_list, isi_str_int, isi_str_bool, isi_str_str, isi_str_tuple, isi_str_list, isi_tuple_int, isi_tuple_bool, isi_tuple_str, isi_tuple_tuple, isi_tuple_list, isi_list_int, isi_list_bool, isi_list_str, isi_list_tuple, isi_list_list, Option.map_some, bif_repr, getS_set, getS_frz, length_frz, List.length_set, List.length_map, line, Nat.reduceAdd, Nat.reduceLT, Nat.reduceLeDiff, Nat.reduceEqDiff, Nat.zero_le, Nat.zero_lt_succ, Int.reduceAdd, Int.reduceSub, Int.reduceLT, Int.reduceLE, Int.reduceToNat, Int.reduceNeg, fit_lit, fit62_lit, Bool.and_self, Bool.and_true, Bool.true_and, Bool.not_eq_true, wipe_len, wipe_nil, getS_wipe, ite_line, ite_ltline, fit62_of, fitI_of, mod_pos, ite_and, dec_le, dec_nle, dec_lt, dec_nlt, dec_eq, dec_neq, ite_le, ite_nle, ite_lt, ite_nlt, List.length_range, nRow.repr (by decide) (by decide), eqv_str, eRP, nRowT.repr (by decide) (by decide)]
    rw [eRn _ (by simp only [e_var, k_val, k_own, e_glb, k_glb, k_cb, e_int, e_str, e_bl, e_non, e_bin, k_bin, j_bin, e_neg, k_neg, e_nt, k_nt, e_and, e_or, and1, and2, and_t, and_f, or1, or2, or_f, or_t, e_cmp, k_cmp, j_cmp, e_chn, k_chn, j_chn, l_chn, l_chf, e_ite, ite_t, ite_f, e_tup, k_tup, j_tup, e_lst, k_lst, j_lst, e_idx, k_idx, j_idx, e_slc, k_slc, j_slc, l_slc, o_nil, o_one, k_o, e_call, k_call, e_bif, k_bif, e_mth, k_mth, j_mth, e_isi, k_isi, e_lc, k_lc, j_lc, k_lce, k_lca_t, k_lca_f, k_lcb, ts_nil, ts_one, k_tb, e_dg, k_dg, e_dn, el_nil, el_cons, k_el, j_el, er_nil, er_cons, k_er, j_er, i_r1, k_r1, i_r2, k_r2, j_r2, i_en, k_enl, k_ent, i_zp, k_zp, j_zp, l_zp_ll, l_zp_tt, l_zp_tl, l_zp_lt, i_it, k_it, j_it, s_nil, s_seq, k_sqn, k_sqr, k_sqb, k_nx, s_asn, s_aso, ea, k_ea_f, k_ea_t, k_as, s_ast, k_ag, s_par, k_pa, j_pa, l_pa, s_aug, k_au, j_aua, j_aus, s_app, k_ap, j_ap, s_sit, k_si, j_si, l_si, s_a2, k_a2, j_a2, l_a2, s_dp, k_dp, j_dp, s_exp, k_ex, s_iff, k_ift, k_iff, s_for, k_fo, k_foe, s_whl, s_ret, k_re, s_retN, s_brk, s_pass, getS_zero, getS_succ, isOwn, putS, dats, c_lt, c_le, c_gt, c_ge, c_is_none, c_is_int, c_is_str, c_is_tup, c_is_lst, c_is_bool, c_isnot_none, c_isnot_int, c_isnot_str, c_isnot_tup, c_isnot_lst, c_isnot_bool, c_in_sgn, c_eq, c_ne, eqOk_str, eqOk_sh, b_add, b_sub, b_mul, b_mod, b_div, b_addl, b_addt, b_rep, l_lst, l_tup, l_str, i_int, x_lst, x_tup, x_str, m_min, it_l, it_t, it_s, t_lst, q_lst, q_tup, bif_len, bif_int, bif_min, bif_max, bif_sum, bif_sorted, bif_all, bif_any, bif_tuple, bif_list, bif_divmod, mth_count, mth_index, mth_join, List.length_cons, List.length_nil, if_true, if_false, Bool.false_eq_true, Bool.or_false, Bool.false_or, Bool.or_self, List.set_cons_zero, List.set_cons_succ, List.map_cons, List.map_nil, frzS, bG_tp, bG_nm, bGs_nil, bGs_cons, ob_some, gd_t, ob_t, at20, at21, eq_self, and_self, and_true, true_and, decide_true, decide_false, Bool.not_true, Bool.not_false, isi_none_int, isi_none_bool, isi_none_str, isi_none_tuple, isi_none_list, isi_bool_int, isi_bool_bool, isi_bool_str, isi_bool_tuple, isi_bool_list, isi_int_int, isi_int_bool, isi_int_str, isi_int_tuple, isi_int_list, isi_str_int, isi_str_bool, isi_str_str, isi_str_tuple, isi_str_list, isi_tuple_int, isi_tuple_bool, isi_tuple_str, isi_tuple_tuple, isi_tuple_list, isi_list_int, isi_list_bool, isi_list_str, isi_list_tuple, isi_list_list, Option.map_some, bif_repr, getS_set, getS_frz, length_frz, List.length_set, List.length_map, line, Nat.reduceAdd, Nat.reduceLT, Nat.reduceLeDiff, Nat.reduceEqDiff, Nat.zero_le, Nat.zero_lt_succ, Int.reduceAdd, Int.reduceSub, Int.reduceLT, Int.reduceLE, Int.reduceToNat, Int.reduceNeg, fit_lit, fit62_lit, Bool.and_self, Bool.and_true, Bool.true_and, Bool.not_eq_true, wipe_len, wipe_nil, getS_wipe]) (by simp only [e_var, k_val, k_own, e_glb, k_glb, k_cb, e_int, e_str, e_bl, e_non, e_bin, k_bin, j_bin, e_neg, k_neg, e_nt, k_nt, e_and, e_or, and1, and2, and_t, and_f, or1, or2, or_f, or_t, e_cmp, k_cmp, j_cmp, e_chn, k_chn, j_chn, l_chn, l_chf, e_ite, ite_t, ite_f, e_tup, k_tup, j_tup, e_lst, k_lst, j_lst, e_idx, k_idx, j_idx, e_slc, k_slc, j_slc, l_slc, o_nil, o_one, k_o, e_call, k_call, e_bif, k_bif, e_mth, k_mth, j_mth, e_isi, k_isi, e_lc, k_lc, j_lc, k_lce, k_lca_t, k_lca_f, k_lcb, ts_nil, ts_one, k_tb, e_dg, k_dg, e_dn, el_nil, el_cons, k_el, j_el, er_nil, er_cons, k_er, j_er, i_r1, k_r1, i_r2, k_r2, j_r2, i_en, k_enl, k_ent, i_zp, k_zp, j_zp, l_zp_ll, l_zp_tt, l_zp_tl, l_zp_lt, i_it, k_it, j_it, s_nil, s_seq, k_sqn, k_sqr, k_sqb, k_nx, s_asn, s_aso, ea, k_ea_f, k_ea_t, k_as, s_ast, k_ag, s_par, k_pa, j_pa, l_pa, s_aug, k_au, j_aua, j_aus, s_app, k_ap, j_ap, s_sit, k_si, j_si, l_si, s_a2, k_a2, j_a2, l_a2, s_dp, k_dp, j_dp, s_exp, k_ex, s_iff, k_ift, k_iff, s_for, k_fo, k_foe, s_whl, s_ret, k_re, s_retN, s_brk, s_pass, getS_zero, getS_succ, isOwn, putS, dats, c_lt, c_le, c_gt, c_ge, c_is_none, c_is_int, c_is_str, c_is_tup, c_is_lst, c_is_bool, c_isnot_none, c_isnot_int, c_isnot_str, c_isnot_tup, c_isnot_lst, c_isnot_bool, c_in_sgn, c_eq, c_ne, eqOk_str, eqOk_sh, b_add, b_sub, b_mul, b_mod, b_div, b_addl, b_addt, b_rep, l_lst, l_tup, l_str, i_int, x_lst, x_tup, x_str, m_min, it_l, it_t, it_s, t_lst, q_lst, q_tup, bif_len, bif_int, bif_min, bif_max, bif_sum, bif_sorted, bif_all, bif_any, bif_tuple, bif_list, bif_divmod, mth_count, mth_index, mth_join, List.length_cons, List.length_nil, if_true, if_false, Bool.false_eq_true, Bool.or_false, Bool.false_or, Bool.or_self, List.set_cons_zero, List.set_cons_succ, List.map_cons, List.map_nil, frzS, bG_tp, bG_nm, bGs_nil, bGs_cons, ob_some, gd_t, ob_t, at20, at21, eq_self, and_self, and_true, true_and, decide_true, decide_false, Bool.not_true, Bool.not_false, isi_none_int, isi_none_bool, isi_none_str, isi_none_tuple, isi_none_list, isi_bool_int, isi_bool_bool, isi_bool_str, isi_bool_tuple, isi_bool_list, isi_int_int, isi_int_bool, isi_int_str, isi_int_tuple, isi_int_list, isi_str_int, isi_str_bool, isi_str_str, isi_str_tuple, isi_str_list, isi_tuple_int, isi_tuple_bool, isi_tuple_str, isi_tuple_tuple, isi_tuple_list, isi_list_int, isi_list_bool, isi_list_str, isi_list_tuple, isi_list_list, Option.map_some, bif_repr, getS_set, getS_frz, length_frz, List.length_set, List.length_map, line, Nat.reduceAdd, Nat.reduceLT, Nat.reduceLeDiff, Nat.reduceEqDiff, Nat.zero_le, Nat.zero_lt_succ, Int.reduceAdd, Int.reduceSub, Int.reduceLT, Int.reduceLE, Int.reduceToNat, Int.reduceNeg, fit_lit, fit62_lit, Bool.and_self, Bool.and_true, Bool.true_and, Bool.not_eq_true, wipe_len, wipe_nil, getS_wipe])]
    simp (disch := first | assumption | omega) only [e_var, k_val, k_own, e_glb, k_glb, k_cb, e_int, e_str, e_bl, e_non, e_bin, k_bin, j_bin, e_neg, k_neg, e_nt, k_nt, e_and, e_or, and1, and2, and_t, and_f, or1, or2, or_f, or_t, e_cmp, k_cmp, j_cmp, e_chn, k_chn, j_chn, l_chn, l_chf, e_ite, ite_t, ite_f, e_tup, k_tup, j_tup, e_lst, k_lst, j_lst, e_idx, k_idx, j_idx, e_slc, k_slc, j_slc, l_slc, o_nil, o_one, k_o, e_call, k_call, e_bif, k_bif, e_mth, k_mth, j_mth, e_isi, k_isi, e_lc, k_lc, j_lc, k_lce, k_lca_t, k_lca_f, k_lcb, ts_nil, ts_one, k_tb, e_dg, k_dg, e_dn, el_nil, el_cons, k_el, j_el, er_nil, er_cons, k_er, j_er, i_r1, k_r1, i_r2, k_r2, j_r2, i_en, k_enl, k_ent, i_zp, k_zp, j_zp, l_zp_ll, l_zp_tt, l_zp_tl, l_zp_lt, i_it, k_it, j_it, s_nil, s_seq, k_sqn, k_sqr, k_sqb, k_nx, s_asn, s_aso, ea, k_ea_f, k_ea_t, k_as, s_ast, k_ag, s_par, k_pa, j_pa, l_pa, s_aug, k_au, j_aua, j_aus, s_app, k_ap, j_ap, s_sit, k_si, j_si, l_si, s_a2, k_a2, j_a2, l_a2, s_dp, k_dp, j_dp, s_exp, k_ex, s_iff, k_ift, k_iff, s_for, k_fo, k_foe, s_whl, s_ret, k_re, s_retN, s_brk, s_pass, getS_zero, getS_succ, isOwn, putS, dats, c_lt, c_le, c_gt, c_ge, c_is_none, c_is_int, c_is_str, c_is_tup, c_is_lst, c_is_bool, c_isnot_none, c_isnot_int, c_isnot_str, c_isnot_tup, c_isnot_lst, c_isnot_bool, c_in_sgn, c_eq, c_ne, eqOk_str, eqOk_sh, b_add, b_sub, b_mul, b_mod, b_div, b_addl, b_addt, b_rep, l_lst, l_tup, l_str, i_int, x_lst, x_tup, x_str, m_min, it_l, it_t, it_s, t_lst, q_lst, q_tup, bif_len, bif_int, bif_min, bif_max, bif_sum, bif_sorted, bif_all, bif_any, bif_tuple, bif_list, bif_divmod, mth_count, mth_index, mth_join, List.length_cons, List.length_nil, if_true, if_false, Bool.false_eq_true, Bool.or_false, Bool.false_or, Bool.or_self, List.set_cons_zero, List.set_cons_succ, List.map_cons, List.map_nil, frzS, bG_tp, bG_nm, bGs_nil, bGs_cons, ob_some, gd_t, ob_t, at20, at21, eq_self, and_self, and_true, true_and, decide_true, decide_false, Bool.not_true, Bool.not_false, isi_none_int, isi_none_bool, isi_none_str, isi_none_tuple, isi_none_list, isi_bool_int, isi_bool_bool, isi_bool_str, isi_bool_tuple, isi_bool_list, isi_int_int, isi_int_bool, isi_int_str, isi_int_tuple, isi_int_list, isi_str_int, isi_str_bool, isi_str_str, isi_str_tuple, isi_str_list, isi_tuple_int, isi_tuple_bool, isi_tuple_str, isi_tuple_tuple, isi_tuple_list, isi_list_int, isi_list_bool, isi_list_str, isi_list_tuple, isi_list_list, Option.map_some, bif_repr, getS_set, getS_frz, length_frz, List.length_set, List.length_map, line, Nat.reduceAdd, Nat.reduceLT, Nat.reduceLeDiff, Nat.reduceEqDiff, Nat.zero_le, Nat.zero_lt_succ, Int.reduceAdd, Int.reduceSub, Int.reduceLT, Int.reduceLE, Int.reduceToNat, Int.reduceNeg, fit_lit, fit62_lit, Bool.and_self, Bool.and_true, Bool.true_and, Bool.not_eq_true, wipe_len, wipe_nil, getS_wipe, ite_line, ite_ltline, fit62_of, fitI_of, mod_pos, ite_and, dec_le, dec_nle, dec_lt, dec_nlt, dec_eq, dec_neq, ite_le, ite_nle, ite_lt, ite_nlt, List.length_range, nPl.repr (by decide) (by decide), ePl, eqv_str]
    rw [b_rept (by omega) (by omega) (by decide) (by decide), Int.toNat_natCast, zeros]
    simp (disch := first | assumption | omega) only [e_var, k_val, k_own, e_glb, k_glb, k_cb, e_int, e_str, e_bl, e_non, e_bin, k_bin, j_bin, e_neg, k_neg, e_nt, k_nt, e_and, e_or, and1, and2, and_t, and_f, or1, or2, or_f, or_t, e_cmp, k_cmp, j_cmp, e_chn, k_chn, j_chn, l_chn, l_chf, e_ite, ite_t, ite_f, e_tup, k_tup, j_tup, e_lst, k_lst, j_lst, e_idx, k_idx, j_idx, e_slc, k_slc, j_slc, l_slc, o_nil, o_one, k_o, e_call, k_call, e_bif, k_bif, e_mth, k_mth, j_mth, e_isi, k_isi, e_lc, k_lc, j_lc, k_lce, k_lca_t, k_lca_f, k_lcb, ts_nil, ts_one, k_tb, e_dg, k_dg, e_dn, el_nil, el_cons, k_el, j_el, er_nil, er_cons, k_er, j_er, i_r1, k_r1, i_r2, k_r2, j_r2, i_en, k_enl, k_ent, i_zp, k_zp, j_zp, l_zp_ll, l_zp_tt, l_zp_tl, l_zp_lt, i_it, k_it, j_it, s_nil, s_seq, k_sqn, k_sqr, k_sqb, k_nx, s_asn, s_aso, ea, k_ea_f, k_ea_t, k_as, s_ast, k_ag, s_par, k_pa, j_pa, l_pa, s_aug, k_au, j_aua, j_aus, s_app, k_ap, j_ap, s_sit, k_si, j_si, l_si, s_a2, k_a2, j_a2, l_a2, s_dp, k_dp, j_dp, s_exp, k_ex, s_iff, k_ift, k_iff, s_for, k_fo, k_foe, s_whl, s_ret, k_re, s_retN, s_brk, s_pass, getS_zero, getS_succ, isOwn, putS, dats, c_lt, c_le, c_gt, c_ge, c_is_none, c_is_int, c_is_str, c_is_tup, c_is_lst, c_is_bool, c_isnot_none, c_isnot_int, c_isnot_str, c_isnot_tup, c_isnot_lst, c_isnot_bool, c_in_sgn, c_eq, c_ne, eqOk_str, eqOk_sh, b_add, b_sub, b_mul, b_mod, b_div, b_addl, b_addt, b_rep, l_lst, l_tup, l_str, i_int, x_lst, x_tup, x_str, m_min, it_l, it_t, it_s, t_lst, q_lst, q_tup, bif_len, bif_int, bif_min, bif_max, bif_sum, bif_sorted, bif_all, bif_any, bif_tuple, bif_list, bif_divmod, mth_count, mth_index, mth_join, List.length_cons, List.length_nil, if_true, if_false, Bool.false_eq_true, Bool.or_false, Bool.false_or, Bool.or_self, List.set_cons_zero, List.set_cons_succ, List.map_cons, List.map_nil, frzS, bG_tp, bG_nm, bGs_nil, bGs_cons, ob_some, gd_t, ob_t, at20, at21, eq_self, and_self, and_true, true_and, decide_true, decide_false, Bool.not_true, Bool.not_false, isi_none_int, isi_none_bool, isi_none_str, isi_none_tuple, isi_none_list, isi_bool_int, isi_bool_bool, isi_bool_str, isi_bool_tuple, isi_bool_list, isi_int_int, isi_int_bool, isi_int_str, isi_int_tuple, isi_int_list, isi_str_int, isi_str_bool, isi_str_str, isi_str_tuple, isi_str_list, isi_tuple_int, isi_tuple_bool, isi_tuple_str, isi_tuple_tuple, isi_tuple_list, isi_list_int, isi_list_bool, isi_list_str, isi_list_tuple, isi_list_list, Option.map_some, bif_repr, getS_set, getS_frz, length_frz, List.length_set, List.length_map, line, Nat.reduceAdd, Nat.reduceLT, Nat.reduceLeDiff, Nat.reduceEqDiff, Nat.zero_le, Nat.zero_lt_succ, Int.reduceAdd, Int.reduceSub, Int.reduceLT, Int.reduceLE, Int.reduceToNat, Int.reduceNeg, fit_lit, fit62_lit, Bool.and_self, Bool.and_true, Bool.true_and, Bool.not_eq_true, wipe_len, wipe_nil, getS_wipe, ite_line, ite_ltline, fit62_of, fitI_of, mod_pos, ite_and, dec_le, dec_nle, dec_lt, dec_nlt, dec_eq, dec_neq, ite_le, ite_nle, ite_lt, ite_nlt, Int.toNat_natCast, zeros]
    refine foT_seq (fun i en' st' => en'.length = 19 ∧ st' = st ∧ getS en' 0 = some (.val (.dic 0)) ∧ getS en' 1 = some (.val (.dat (dealD ps R))) ∧ getS en' 2 = some (.val (.dat (.int (ps.length : Int)))) ∧ getS en' 3 = some (.val (.dat (.list (rowN ps R 90)))) ∧ getS en' 6 = some (.val (.dat (psD ps))) ∧
      getS en' 8 = some (.own ((List.range (i + 1)).map (hasT ps.length R))) ∧ getS en' 9 = some (.own ((List.range ps.length).map fun d => .int (cby R d (i : Int))))) ⟨rfl, rfl, rfl, rfl, rfl, rfl, rfl, ?_, ?_⟩ (fun i x en' st' hx hI => ?_) (fun en' st' hI => ?_)
    · show some (Slot.own [PyData.tuple _]) = some (Slot.own [_])
      simp only [hasT, cz]
    · show some (Slot.own _) = some (Slot.own _)
      simp only [cz]
    · obtain ⟨hL, rfl, h0, h1, h2, h3, h6, h8, h9⟩ := hI
      have hi : i < 90 := by
        have := (List.getElem?_eq_some_iff.mp hx).1
        simpa using this
      rw [range_at hi] at hx
      cases hx
      have hd := dlt i
      simp (disch := first | assumption | omega) only [e_var, k_val, k_own, e_glb, k_glb, k_cb, e_int, e_str, e_bl, e_non, e_bin, k_bin, j_bin, e_neg, k_neg, e_nt, k_nt, e_and, e_or, and1, and2, and_t, and_f, or1, or2, or_f, or_t, e_cmp, k_cmp, j_cmp, e_chn, k_chn, j_chn, l_chn, l_chf, e_ite, ite_t, ite_f, e_tup, k_tup, j_tup, e_lst, k_lst, j_lst, e_idx, k_idx, j_idx, e_slc, k_slc, j_slc, l_slc, o_nil, o_one, k_o, e_call, k_call, e_bif, k_bif, e_mth, k_mth, j_mth, e_isi, k_isi, e_lc, k_lc, j_lc, k_lce, k_lca_t, k_lca_f, k_lcb, ts_nil, ts_one, k_tb, e_dg, k_dg, e_dn, el_nil, el_cons, k_el, j_el, er_nil, er_cons, k_er, j_er, i_r1, k_r1, i_r2, k_r2, j_r2, i_en, k_enl, k_ent, i_zp, k_zp, j_zp, l_zp_ll, l_zp_tt, l_zp_tl, l_zp_lt, i_it, k_it, j_it, s_nil, s_seq, k_sqn, k_sqr, k_sqb, k_nx, s_asn, s_aso, ea, k_ea_f, k_ea_t, k_as, s_ast, k_ag, s_par, k_pa, j_pa, l_pa, s_aug, k_au, j_aua, j_aus, s_app, k_ap, j_ap, s_sit, k_si, j_si, l_si, s_a2, k_a2, j_a2, l_a2, s_dp, k_dp, j_dp, s_exp, k_ex, s_iff, k_ift, k_iff, s_for, k_fo, k_foe, s_whl, s_ret, k_re, s_retN, s_brk, s_pass, getS_zero, getS_succ, isOwn, putS, dats, c_lt, c_le, c_gt, c_ge, c_is_none, c_is_int, c_is_str, c_is_tup, c_is_lst, c_is_bool, c_isnot_none, c_isnot_int, c_isnot_str, c_isnot_tup, c_isnot_lst, c_isnot_bool, c_in_sgn, c_eq, c_ne, eqOk_str, eqOk_sh, b_add, b_sub, b_mul, b_mod, b_div, b_addl, b_addt, b_rep, l_lst, l_tup, l_str, i_int, x_lst, x_tup, x_str, m_min, it_l, it_t, it_s, t_lst, q_lst, q_tup, bif_len, bif_int, bif_min, bif_max, bif_sum, bif_sorted, bif_all, bif_any, bif_tuple, bif_list, bif_divmod, mth_count, mth_index, mth_join, List.length_cons, List.length_nil, if_true, if_false, Bool.false_eq_true, Bool.or_false, Bool.false_or, Bool.or_self, List.set_cons_zero, List.set_cons_succ, List.map_cons, List.map_nil, frzS, bG_tp, bG_nm, bGs_nil, bGs_cons, ob_some, gd_t, ob_t, at20, at21, eq_self, and_self, and_true, true_and, decide_true, decide_false, Bool.not_true, Bool.not_false, isi_none_int, isi_none_bool, isi_none_str, isi_none_tuple, isi_none_list, isi_bool_int, isi_bool_bool, isi_bool_str, isi_bool_tuple, isi_bool_list, isi_int_int, isi_int_bool, isi_int_str, isi_int_tuple, isi_int_list, isi_str_int, isi_str_bool, isi_str_str, isi_str_tuple, isi_str_list, isi_tuple_int, isi_tuple_bool, isi_tuple_str, isi_tuple_tuple, isi_tuple_list, isi_list_int, isi_list_bool, isi_list_str, isi_list_tuple, isi_list_list, Option.map_some, bif_repr, getS_set, getS_frz, length_frz, List.length_set, List.length_map, line, Nat.reduceAdd, Nat.reduceLT, Nat.reduceLeDiff, Nat.reduceEqDiff, Nat.zero_le, Nat.zero_lt_succ, Int.reduceAdd, Int.reduceSub, Int.reduceLT, Int.reduceLE, Int.reduceToNat, Int.reduceNeg, fit_lit, fit62_lit, Bool.and_self, Bool.and_true, Bool.true_and, Bool.not_eq_true, wipe_len, wipe_nil, getS_wipe, ite_line, ite_ltline, fit62_of, fitI_of, mod_pos, ite_and, dec_le, dec_nle, dec_lt, dec_nlt, dec_eq, dec_neq, ite_le, ite_nle, ite_lt, ite_nlt, hL, h6, h9, idx_ps hp.nodup hd]
      have hstep : (fun d => PyData.int (if d = dg R i then cby R (dg R i) (i : Int) + 1 else cby R d (i : Int))) = fun d => PyData.int (cby R d ((i + 1 : Nat) : Int)) := by
        funext d
        have := cby_dg hG i d
        rw [hRd] at this
        rw [Int.natCast_succ, this]
        by_cases e : d = dg R i
        · subst e; simp
        · rw [if_neg e, if_neg (Ne.symm e), Int.add_zero]
      rw [a2_int (dg R i) (by simpa using hd) (range_at hd _), range_set, hstep]
      simp (disch := first | assumption | omega) only [e_var, k_val, k_own, e_glb, k_glb, k_cb, e_int, e_str, e_bl, e_non, e_bin, k_bin, j_bin, e_neg, k_neg, e_nt, k_nt, e_and, e_or, and1, and2, and_t, and_f, or1, or2, or_f, or_t, e_cmp, k_cmp, j_cmp, e_chn, k_chn, j_chn, l_chn, l_chf, e_ite, ite_t, ite_f, e_tup, k_tup, j_tup, e_lst, k_lst, j_lst, e_idx, k_idx, j_idx, e_slc, k_slc, j_slc, l_slc, o_nil, o_one, k_o, e_call, k_call, e_bif, k_bif, e_mth, k_mth, j_mth, e_isi, k_isi, e_lc, k_lc, j_lc, k_lce, k_lca_t, k_lca_f, k_lcb, ts_nil, ts_one, k_tb, e_dg, k_dg, e_dn, el_nil, el_cons, k_el, j_el, er_nil, er_cons, k_er, j_er, i_r1, k_r1, i_r2, k_r2, j_r2, i_en, k_enl, k_ent, i_zp, k_zp, j_zp, l_zp_ll, l_zp_tt, l_zp_tl, l_zp_lt, i_it, k_it, j_it, s_nil, s_seq, k_sqn, k_sqr, k_sqb, k_nx, s_asn, s_aso, ea, k_ea_f, k_ea_t, k_as, s_ast, k_ag, s_par, k_pa, j_pa, l_pa, s_aug, k_au, j_aua, j_aus, s_app, k_ap, j_ap, s_sit, k_si, j_si, l_si, s_a2, k_a2, j_a2, l_a2, s_dp, k_dp, j_dp, s_exp, k_ex, s_iff, k_ift, k_iff, s_for, k_fo, k_foe, s_whl, s_ret, k_re, s_retN, s_brk, s_pass, getS_zero, getS_succ, isOwn, putS, dats, c_lt, c_le, c_gt, c_ge, c_is_none, c_is_int, c_is_str, c_is_tup, c_is_lst, c_is_bool, c_isnot_none, c_isnot_int, c_isnot_str, c_isnot_tup, c_isnot_lst, c_isnot_bool, c_in_sgn, c_eq, c_ne, eqOk_str, eqOk_sh, b_add, b_sub, b_mul, b_mod, b_div, b_addl, b_addt, b_rep, l_lst, l_tup, l_str, i_int, x_lst, x_tup, x_str, m_min, it_l, it_t, it_s, t_lst, q_lst, q_tup, bif_len, bif_int, bif_min, bif_max, bif_sum, bif_sorted, bif_all, bif_any, bif_tuple, bif_list, bif_divmod, mth_count, mth_index, mth_join, List.length_cons, List.length_nil, if_true, if_false, Bool.false_eq_true, Bool.or_false, Bool.false_or, Bool.or_self, List.set_cons_zero, List.set_cons_succ, List.map_cons, List.map_nil, frzS, bG_tp, bG_nm, bGs_nil, bGs_cons, ob_some, gd_t, ob_t, at20, at21, eq_self, and_self, and_true, true_and, decide_true, decide_false, Bool.not_true, Bool.not_false, isi_none_int, isi_none_bool, isi_none_str, isi_none_tuple, isi_none_list, isi_bool_int, isi_bool_bool, isi_bool_str, isi_bool_tuple, isi_bool_list, isi_int_int, isi_int_bool, isi_int_str, isi_int_tuple, isi_int_list, isi_str_int, isi_str_bool, isi_str_str, isi_str_tuple, isi_str_list, isi_tuple_int, isi_tuple_bool, isi_tuple_str, isi_tuple_tuple, isi_tuple_list, isi_list_int, isi_list_bool, isi_list_str, isi_list_tuple, isi_list_list, Option.map_some, bif_repr, getS_set, getS_frz, length_frz, List.length_set, List.length_map, line, Nat.reduceAdd, Nat.reduceLT, Nat.reduceLeDiff, Nat.reduceEqDiff, Nat.zero_le, Nat.zero_lt_succ, Int.reduceAdd, Int.reduceSub, Int.reduceLT, Int.reduceLE, Int.reduceToNat, Int.reduceNeg, fit_lit, fit62_lit, Bool.and_self, Bool.and_true, Bool.true_and, Bool.not_eq_true, wipe_len, wipe_nil, getS_wipe, ite_line, ite_ltline, fit62_of, fitI_of, mod_pos, ite_and, dec_le, dec_nle, dec_lt, dec_nlt, dec_eq, dec_neq, ite_le, ite_nle, ite_lt, ite_nlt, hL, h8, List.length_range]
      refine ⟨_, rfl, _, _, rfl, ?_⟩
      simp only [e_var, k_val, k_own, e_glb, k_glb, k_cb, e_int, e_str, e_bl, e_non, e_bin, k_bin, j_bin, e_neg, k_neg, e_nt, k_nt, e_and, e_or, and1, and2, and_t, and_f, or1, or2, or_f, or_t, e_cmp, k_cmp, j_cmp, e_chn, k_chn, j_chn, l_chn, l_chf, e_ite, ite_t, ite_f, e_tup, k_tup, j_tup, e_lst, k_lst, j_lst, e_idx, k_idx, j_idx, e_slc, k_slc, j_slc, l_slc, o_nil, o_one, k_o, e_call, k_call, e_bif, k_bif, e_mth, k_mth, j_mth, e_isi, k_isi, e_lc, k_lc, j_lc, k_lce, k_lca_t, k_lca_f, k_lcb, ts_nil, ts_one, k_tb, e_dg, k_dg, e_dn, el_nil, el_cons, k_el, j_el, er_nil, er_cons, k_er, j_er, i_r1, k_r1, i_r2, k_r2, j_r2, i_en, k_enl, k_ent, i_zp, k_zp, j_zp, l_zp_ll, l_zp_tt, l_zp_tl, l_zp_lt, i_it, k_it, j_it, s_nil, s_seq, k_sqn, k_sqr, k_sqb, k_nx, s_asn, s_aso, ea, k_ea_f, k_ea_t, k_as, s_ast, k_ag, s_par, k_pa, j_pa, l_pa, s_aug, k_au, j_aua, j_aus, s_app, k_ap, j_ap, s_sit, k_si, j_si, l_si, s_a2, k_a2, j_a2, l_a2, s_dp, k_dp, j_dp, s_exp, k_ex, s_iff, k_ift, k_iff, s_for, k_fo, k_foe, s_whl, s_ret, k_re, s_retN, s_brk, s_pass, getS_zero, getS_succ, isOwn, putS, dats, c_lt, c_le, c_gt, c_ge, c_is_none, c_is_int, c_is_str, c_is_tup, c_is_lst, c_is_bool, c_isnot_none, c_isnot_int, c_isnot_str, c_isnot_tup, c_isnot_lst, c_isnot_bool, c_in_sgn, c_eq, c_ne, eqOk_str, eqOk_sh, b_add, b_sub, b_mul, b_mod, b_div, b_addl, b_addt, b_rep, l_lst, l_tup, l_str, i_int, x_lst, x_tup, x_str, m_min, it_l, it_t, it_s, t_lst, q_lst, q_tup, bif_len, bif_int, bif_min, bif_max, bif_sum, bif_sorted, bif_all, bif_any, bif_tuple, bif_list, bif_divmod, mth_count, mth_index, mth_join, List.length_cons, List.length_nil, if_true, if_false, Bool.false_eq_true, Bool.or_false, Bool.false_or, Bool.or_self, List.set_cons_zero, List.set_cons_succ, List.map_cons, List.map_nil, frzS, bG_tp, bG_nm, bGs_nil, bGs_cons, ob_some, gd_t, ob_t, at20, at21, eq_self, and_self, and_true, true_and, decide_true, decide_false, Bool.not_true, Bool.not_false, isi_none_int, isi_none_bool, isi_none_str, isi_none_tuple, isi_none_list, isi_bool_int, isi_bool_bool, isi_bool_str, isi_bool_tuple, isi_bool_list, isi_int_int, isi_int_bool, isi_int_str, isi_int_tuple, isi_int_list, isi_str_int, isi_str_bool, isi_str_str, isi_str_tuple, isi_str_list, isi_tuple_int, isi_tuple_bool, isi_tuple_str, isi_tuple_tuple, isi_tuple_list, isi_list_int, isi_list_bool, isi_list_str, isi_list_tuple, isi_list_list, Option.map_some, bif_repr, getS_set, getS_frz, length_frz, List.length_set, List.length_map, line, Nat.reduceAdd, Nat.reduceLT, Nat.reduceLeDiff, Nat.reduceEqDiff, Nat.zero_le, Nat.zero_lt_succ, Int.reduceAdd, Int.reduceSub, Int.reduceLT, Int.reduceLE, Int.reduceToNat, Int.reduceNeg, fit_lit, fit62_lit, Bool.and_self, Bool.and_true, Bool.true_and, Bool.not_eq_true, wipe_len, wipe_nil, getS_wipe, hL, h0, h1, h2, h3, h6]
      rw [List.range_succ (n := i + 1), List.map_append]
      rfl
    · obtain ⟨hL, rfl, h0, h1, h2, h3, h6, h8, h9⟩ := hI
      rw [List.length_map, List.length_range] at h8 h9
      simp only [e_var, k_val, k_own, e_glb, k_glb, k_cb, e_int, e_str, e_bl, e_non, e_bin, k_bin, j_bin, e_neg, k_neg, e_nt, k_nt, e_and, e_or, and1, and2, and_t, and_f, or1, or2, or_f, or_t, e_cmp, k_cmp, j_cmp, e_chn, k_chn, j_chn, l_chn, l_chf, e_ite, ite_t, ite_f, e_tup, k_tup, j_tup, e_lst, k_lst, j_lst, e_idx, k_idx, j_idx, e_slc, k_slc, j_slc, l_slc, o_nil, o_one, k_o, e_call, k_call, e_bif, k_bif, e_mth, k_mth, j_mth, e_isi, k_isi, e_lc, k_lc, j_lc, k_lce, k_lca_t, k_lca_f, k_lcb, ts_nil, ts_one, k_tb, e_dg, k_dg, e_dn, el_nil, el_cons, k_el, j_el, er_nil, er_cons, k_er, j_er, i_r1, k_r1, i_r2, k_r2, j_r2, i_en, k_enl, k_ent, i_zp, k_zp, j_zp, l_zp_ll, l_zp_tt, l_zp_tl, l_zp_lt, i_it, k_it, j_it, s_nil, s_seq, k_sqn, k_sqr, k_sqb, k_nx, s_asn, s_aso, ea, k_ea_f, k_ea_t, k_as, s_ast, k_ag, s_par, k_pa, j_pa, l_pa, s_aug, k_au, j_aua, j_aus, s_app, k_ap, j_ap, s_sit, k_si, j_si, l_si, s_a2, k_a2, j_a2, l_a2, s_dp, k_dp, j_dp, s_exp, k_ex, s_iff, k_ift, k_iff, s_for, k_fo, k_foe, s_whl, s_ret, k_re, s_retN, s_brk, s_pass, getS_zero, getS_succ, isOwn, putS, dats, c_lt, c_le, c_gt, c_ge, c_is_none, c_is_int, c_is_str, c_is_tup, c_is_lst, c_is_bool, c_isnot_none, c_isnot_int, c_isnot_str, c_isnot_tup, c_isnot_lst, c_isnot_bool, c_in_sgn, c_eq, c_ne, eqOk_str, eqOk_sh, b_add, b_sub, b_mul, b_mod, b_div, b_addl, b_addt, b_rep, l_lst, l_tup, l_str, i_int, x_lst, x_tup, x_str, m_min, it_l, it_t, it_s, t_lst, q_lst, q_tup, bif_len, bif_int, bif_min, bif_max, bif_sum, bif_sorted, bif_all, bif_any, bif_tuple, bif_list, bif_divmod, mth_count, mth_index, mth_join, List.length_cons, List.length_nil, if_true, if_false, Bool.false_eq_true, Bool.or_false, Bool.false_or, Bool.or_self, List.set_cons_zero, List.set_cons_succ, List.map_cons, List.map_nil, frzS, bG_tp, bG_nm, bGs_nil, bGs_cons, ob_some, gd_t, ob_t, at20, at21, eq_self, and_self, and_true, true_and, decide_true, decide_false, Bool.not_true, Bool.not_false, isi_none_int, isi_none_bool, isi_none_str, isi_none_tuple, isi_none_list, isi_bool_int, isi_bool_bool, isi_bool_str, isi_bool_tuple, isi_bool_list, isi_int_int, isi_int_bool, isi_int_str, isi_int_tuple, isi_int_list, isi_str_int, isi_str_bool, isi_str_str, isi_str_tuple, isi_str_list, isi_tuple_int, isi_tuple_bool, isi_tuple_str, isi_tuple_tuple, isi_tuple_list, isi_list_int, isi_list_bool, isi_list_str, isi_list_tuple, isi_list_list, Option.map_some, bif_repr, getS_set, getS_frz, length_frz, List.length_set, List.length_map, line, Nat.reduceAdd, Nat.reduceLT, Nat.reduceLeDiff, Nat.reduceEqDiff, Nat.zero_le, Nat.zero_lt_succ, Int.reduceAdd, Int.reduceSub, Int.reduceLT, Int.reduceLE, Int.reduceToNat, Int.reduceNeg, fit_lit, fit62_lit, Bool.and_self, Bool.and_true, Bool.true_and, Bool.not_eq_true, wipe_len, wipe_nil, getS_wipe, hL]
      rw [eHs _ _ (by simp only [e_var, k_val, k_own, e_glb, k_glb, k_cb, e_int, e_str, e_bl, e_non, e_bin, k_bin, j_bin, e_neg, k_neg, e_nt, k_nt, e_and, e_or, and1, and2, and_t, and_f, or1, or2, or_f, or_t, e_cmp, k_cmp, j_cmp, e_chn, k_chn, j_chn, l_chn, l_chf, e_ite, ite_t, ite_f, e_tup, k_tup, j_tup, e_lst, k_lst, j_lst, e_idx, k_idx, j_idx, e_slc, k_slc, j_slc, l_slc, o_nil, o_one, k_o, e_call, k_call, e_bif, k_bif, e_mth, k_mth, j_mth, e_isi, k_isi, e_lc, k_lc, j_lc, k_lce, k_lca_t, k_lca_f, k_lcb, ts_nil, ts_one, k_tb, e_dg, k_dg, e_dn, el_nil, el_cons, k_el, j_el, er_nil, er_cons, k_er, j_er, i_r1, k_r1, i_r2, k_r2, j_r2, i_en, k_enl, k_ent, i_zp, k_zp, j_zp, l_zp_ll, l_zp_tt, l_zp_tl, l_zp_lt, i_it, k_it, j_it, s_nil, s_seq, k_sqn, k_sqr, k_sqb, k_nx, s_asn, s_aso, ea, k_ea_f, k_ea_t, k_as, s_ast, k_ag, s_par, k_pa, j_pa, l_pa, s_aug, k_au, j_aua, j_aus, s_app, k_ap, j_ap, s_sit, k_si, j_si, l_si, s_a2, k_a2, j_a2, l_a2, s_dp, k_dp, j_dp, s_exp, k_ex, s_iff, k_ift, k_iff, s_for, k_fo, k_foe, s_whl, s_ret, k_re, s_retN, s_brk, s_pass, getS_zero, getS_succ, isOwn, putS, dats, c_lt, c_le, c_gt, c_ge, c_is_none, c_is_int, c_is_str, c_is_tup, c_is_lst, c_is_bool, c_isnot_none, c_isnot_int, c_isnot_str, c_isnot_tup, c_isnot_lst, c_isnot_bool, c_in_sgn, c_eq, c_ne, eqOk_str, eqOk_sh, b_add, b_sub, b_mul, b_mod, b_div, b_addl, b_addt, b_rep, l_lst, l_tup, l_str, i_int, x_lst, x_tup, x_str, m_min, it_l, it_t, it_s, t_lst, q_lst, q_tup, bif_len, bif_int, bif_min, bif_max, bif_sum, bif_sorted, bif_all, bif_any, bif_tuple, bif_list, bif_divmod, mth_count, mth_index, mth_join, List.length_cons, List.length_nil, if_true, if_false, Bool.false_eq_true, Bool.or_false, Bool.false_or, Bool.or_self, List.set_cons_zero, List.set_cons_succ, List.map_cons, List.map_nil, frzS, bG_tp, bG_nm, bGs_nil, bGs_cons, ob_some, gd_t, ob_t, at20, at21, eq_self, and_self, and_true, true_and, decide_true, decide_false, Bool.not_true, Bool.not_false, isi_none_int, isi_none_bool, isi_none_str, isi_none_tuple, isi_none_list, isi_bool_int, isi_bool_bool, isi_bool_str, isi_bool_tuple, isi_bool_list, isi_int_int, isi_int_bool, isi_int_str, isi_int_tuple, isi_int_list, isi_str_int, isi_str_bool, isi_str_str, isi_str_tuple, isi_str_list, isi_tuple_int, isi_tuple_bool, isi_tuple_str, isi_tuple_tuple, isi_tuple_list, isi_list_int, isi_list_bool, isi_list_str, isi_list_tuple, isi_list_list, Option.map_some, bif_repr, getS_set, getS_frz, length_frz, List.length_set, List.length_map, line, Nat.reduceAdd, Nat.reduceLT, Nat.reduceLeDiff, Nat.reduceEqDiff, Nat.zero_le, Nat.zero_lt_succ, Int.reduceAdd, Int.reduceSub, Int.reduceLT, Int.reduceLE, Int.reduceToNat, Int.reduceNeg, fit_lit, fit62_lit, Bool.and_self, Bool.and_true, Bool.true_and, Bool.not_eq_true, wipe_len, wipe_nil, getS_wipe, hL]) (by simp only [e_var, k_val, k_own, e_glb, k_glb, k_cb, e_int, e_str, e_bl, e_non, e_bin, k_bin, j_bin, e_neg, k_neg, e_nt, k_nt, e_and, e_or, and1, and2, and_t, and_f, or1, or2, or_f, or_t, e_cmp, k_cmp, j_cmp, e_chn, k_chn, j_chn, l_chn, l_chf, e_ite, ite_t, ite_f, e_tup, k_tup, j_tup, e_lst, k_lst, j_lst, e_idx, k_idx, j_idx, e_slc, k_slc, j_slc, l_slc, o_nil, o_one, k_o, e_call, k_call, e_bif, k_bif, e_mth, k_mth, j_mth, e_isi, k_isi, e_lc, k_lc, j_lc, k_lce, k_lca_t, k_lca_f, k_lcb, ts_nil, ts_one, k_tb, e_dg, k_dg, e_dn, el_nil, el_cons, k_el, j_el, er_nil, er_cons, k_er, j_er, i_r1, k_r1, i_r2, k_r2, j_r2, i_en, k_enl, k_ent, i_zp, k_zp, j_zp, l_zp_ll, l_zp_tt, l_zp_tl, l_zp_lt, i_it, k_it, j_it, s_nil, s_seq, k_sqn, k_sqr, k_sqb, k_nx, s_asn, s_aso, ea, k_ea_f, k_ea_t, k_as, s_ast, k_ag, s_par, k_pa, j_pa, l_pa, s_aug, k_au, j_aua, j_aus, s_app, k_ap, j_ap, s_sit, k_si, j_si, l_si, s_a2, k_a2, j_a2, l_a2, s_dp, k_dp, j_dp, s_exp, k_ex, s_iff, k_ift, k_iff, s_for, k_fo, k_foe, s_whl, s_ret, k_re, s_retN, s_brk, s_pass, getS_zero, getS_succ, isOwn, putS, dats, c_lt, c_le, c_gt, c_ge, c_is_none, c_is_int, c_is_str, c_is_tup, c_is_lst, c_is_bool, c_isnot_none, c_isnot_int, c_isnot_str, c_isnot_tup, c_isnot_lst, c_isnot_bool, c_in_sgn, c_eq, c_ne, eqOk_str, eqOk_sh, b_add, b_sub, b_mul, b_mod, b_div, b_addl, b_addt, b_rep, l_lst, l_tup, l_str, i_int, x_lst, x_tup, x_str, m_min, it_l, it_t, it_s, t_lst, q_lst, q_tup, bif_len, bif_int, bif_min, bif_max, bif_sum, bif_sorted, bif_all, bif_any, bif_tuple, bif_list, bif_divmod, mth_count, mth_index, mth_join, List.length_cons, List.length_nil, if_true, if_false, Bool.false_eq_true, Bool.or_false, Bool.false_or, Bool.or_self, List.set_cons_zero, List.set_cons_succ, List.map_cons, List.map_nil, frzS, bG_tp, bG_nm, bGs_nil, bGs_cons, ob_some, gd_t, ob_t, at20, at21, eq_self, and_self, and_true, true_and, decide_true, decide_false, Bool.not_true, Bool.not_false, isi_none_int, isi_none_bool, isi_none_str, isi_none_tuple, isi_none_list, isi_bool_int, isi_bool_bool, isi_bool_str, isi_bool_tuple, isi_bool_list, isi_int_int, isi_int_bool, isi_int_str, isi_int_tuple, isi_int_list, isi_str_int, isi_str_bool, isi_str_str, isi_str_tuple, isi_str_list, isi_tuple_int, isi_tuple_bool, isi_tuple_str, isi_tuple_tuple, isi_tuple_list, isi_list_int, isi_list_bool, isi_list_str, isi_list_tuple, isi_list_list, Option.map_some, bif_repr, getS_set, getS_frz, length_frz, List.length_set, List.length_map, line, Nat.reduceAdd, Nat.reduceLT, Nat.reduceLeDiff, Nat.reduceEqDiff, Nat.zero_le, Nat.zero_lt_succ, Int.reduceAdd, Int.reduceSub, Int.reduceLT, Int.reduceLE, Int.reduceToNat, Int.reduceNeg, fit_lit, fit62_lit, Bool.and_self, Bool.and_true, Bool.true_and, Bool.not_eq_true, wipe_len, wipe_nil, getS_wipe, hL, h1])]
      simp (disch := first | assumption | omega) only [e_var, k_val, k_own, e_glb, k_glb, k_cb, e_int, e_str, e_bl, e_non, e_bin, k_bin, j_bin, e_neg, k_neg, e_nt, k_nt, e_and, e_or, and1, and2, and_t, and_f, or1, or2, or_f, or_t, e_cmp, k_cmp, j_cmp, e_chn, k_chn, j_chn, l_chn, l_chf, e_ite, ite_t, ite_f, e_tup, k_tup, j_tup, e_lst, k_lst, j_lst, e_idx, k_idx, j_idx, e_slc, k_slc, j_slc, l_slc, o_nil, o_one, k_o, e_call, k_call, e_bif, k_bif, e_mth, k_mth, j_mth, e_isi, k_isi, e_lc, k_lc, j_lc, k_lce, k_lca_t, k_lca_f, k_lcb, ts_nil, ts_one, k_tb, e_dg, k_dg, e_dn, el_nil, el_cons, k_el, j_el, er_nil, er_cons, k_er, j_er, i_r1, k_r1, i_r2, k_r2, j_r2, i_en, k_enl, k_ent, i_zp, k_zp, j_zp, l_zp_ll, l_zp_tt, l_zp_tl, l_zp_lt, i_it, k_it, j_it, s_nil, s_seq, k_sqn, k_sqr, k_sqb, k_nx, s_asn, s_aso, ea, k_ea_f, k_ea_t, k_as, s_ast, k_ag, s_par, k_pa, j_pa, l_pa, s_aug, k_au, j_aua, j_aus, s_app, k_ap, j_ap, s_sit, k_si, j_si, l_si, s_a2, k_a2, j_a2, l_a2, s_dp, k_dp, j_dp, s_exp, k_ex, s_iff, k_ift, k_iff, s_for, k_fo, k_foe, s_whl, s_ret, k_re, s_retN, s_brk, s_pass, getS_zero, getS_succ, isOwn, putS, dats, c_lt, c_le, c_gt, c_ge, c_is_none, c_is_int, c_is_str, c_is_tup, c_is_lst, c_is_bool, c_isnot_none, c_isnot_int, c_isnot_str, c_isnot_tup, c_isnot_lst, c_isnot_bool, c_in_sgn, c_eq, c_ne, eqOk_str, eqOk_sh, b_add, b_sub, b_mul, b_mod, b_div, b_addl, b_addt, b_rep, l_lst, l_tup, l_str, i_int, x_lst, x_tup, x_str, m_min, it_l, it_t, it_s, t_lst, q_lst, q_tup, bif_len, bif_int, bif_min, bif_max, bif_sum, bif_sorted, bif_all, bif_any, bif_tuple, bif_list, bif_divmod, mth_count, mth_index, mth_join, List.length_cons, List.length_nil, if_true, if_false, Bool.false_eq_true, Bool.or_false, Bool.false_or, Bool.or_self, List.set_cons_zero, List.set_cons_succ, List.map_cons, List.map_nil, frzS, bG_tp, bG_nm, bGs_nil, bGs_cons, ob_some, gd_t, ob_t, at20, at21, eq_self, and_self, and_true, true_and, decide_true, decide_false, Bool.not_true, Bool.not_false, isi_none_int, isi_none_bool, isi_none_str, isi_none_tuple, isi_none_list, isi_bool_int, isi_bool_bool, isi_bool_str, isi_bool_tuple, isi_bool_list, isi_int_int, isi_int_bool, isi_int_str, isi_int_tuple, isi_int_list, isi_str_int, isi_str_bool, isi_str_str, isi_str_tuple, isi_str_list, isi_tuple_int, isi_tuple_bool, isi_tuple_str, isi_tuple_tuple, isi_tuple_list, isi_list_int, isi_list_bool, isi_list_str, isi_list_tuple, isi_list_list, Option.map_some, bif_repr, getS_set, getS_frz, length_frz, List.length_set, List.length_map, line, Nat.reduceAdd, Nat.reduceLT, Nat.reduceLeDiff, Nat.reduceEqDiff, Nat.zero_le, Nat.zero_lt_succ, Int.reduceAdd, Int.reduceSub, Int.reduceLT, Int.reduceLE, Int.reduceToNat, Int.reduceNeg, fit_lit, fit62_lit, Bool.and_self, Bool.and_true, Bool.true_and, Bool.not_eq_true, wipe_len, wipe_nil, getS_wipe, ite_line, ite_ltline, fit62_of, fitI_of, mod_pos, ite_and, dec_le, dec_nle, dec_lt, dec_nlt, dec_eq, dec_neq, ite_le, ite_nle, ite_lt, ite_nlt, hL, h8, List.length_range, nHas.repr (by decide) (by decide), eqv_str]
      refine foT_seq (fun i en' st' => en'.length = 19 ∧ MOk (b + 3 * i) st' ∧ getS en' 0 = some (.val (.dic 0)) ∧ getS en' 1 = some (.val (.dat (dealD ps R))) ∧ getS en' 2 = some (.val (.dat (.int (ps.length : Int)))) ∧ getS en' 3 = some (.val (.dat (.list (rowN ps R 90)))) ∧
        getS en' 8 = some (.own ((List.range 91).map (hasT ps.length R)))) ⟨hL, hM, h0, h1, h2, h3, h8⟩ (fun i x en' st' hx hI => ?_) (fun en' st' hI => ?_)
      · clear hM hL h0 h1 h2 h3 h6 h8 h9 eRow eNm eA eRn ePl eRP
        obtain ⟨hL, hM, h0, h1, h2, h3, h8⟩ := hI
        have hi : i < 6 := by
          have := (List.getElem?_eq_some_iff.mp hx).1
          rw [upto_map] at this
          simpa using this
        obtain ⟨v1, st1, e1, v10, v11, hM1⟩ := s_draw (wf := wf) (n := n + 3) (many := 60) hM (by omega) (by decide) (by decide)
        obtain ⟨v2, st2, e2, v20, v21, hM2⟩ := s_draw (wf := wf) (n := n + 3) (many := 16) hM1 (by omega) (by decide) (by decide)
        obtain ⟨v3, st3, e3, v30, v31, hM3⟩ := s_draw (wf := wf) (n := n + 3) (many := 15) hM2 (by omega) (by decide) (by decide)
        obtain ⟨c1, rfl⟩ := Int.eq_ofNat_of_zero_le v10
        obtain ⟨c2, rfl⟩ := Int.eq_ofNat_of_zero_le v20
        obtain ⟨c3, rfl⟩ := Int.eq_ofNat_of_zero_le v30
        have a12 : (c1 : Int) + (c2 : Int) = ((c1 + c2 : Nat) : Int) := by omega
        have a23 : (c2 : Int) + (c3 : Int) = ((c2 + c3 : Nat) : Int) := by omega
        have a123 : ((c1 + c2 : Nat) : Int) + (c3 : Int) = ((c1 + c2 + c3 : Nat) : Int) := by omega
        have g1 := s_getsD (wf := wf) (n := n) (st := st3) (b := c1) (c := c2) h (by omega) (by omega)
        have g2 := s_getsD (wf := wf) (n := n) (st := st3) (b := c1 + c2) (c := c3) h (by omega) (by omega)
        have g3 := s_getsD (wf := wf) (n := n) (st := st3) (b := c1) (c := c2 + c3) h (by omega) (by omega)
        have g4 := s_getsD (wf := wf) (n := n) (st := st3) (b := c1) (c := 0) h (by omega) (by omega)
        have rp := s_row_part (wf := wf) (n := n) (st := st3) (b := c1) (k := c2) h (by omega) (by omega)
        have d1 := ni_dif hG m6 (b := c1) (c := c1 + c2) (by omega) (by omega)
        have d2 := ni_dif hG m6 (b := c1 + c2) (c := c1 + c2 + c3) (by omega) (by omega)
        have d3 := ni_dif hG m6 (b := c1) (c := c1 + (c2 + c3)) (by omega) (by omega)
        rw [hRd] at g1 g2 g3 g4 rp d1 d2 d3
        have nTwo : Ni 2 2000 (.list [.tuple ((List.range ps.length).map fun d => .int (cby R d ((c1 + c2 : Nat) : Int) - cby R d (c1 : Int))), .tuple ((List.range ps.length).map fun d => .int (cby R d ((c1 + c2 + c3 : Nat) : Int) - cby R d ((c1 + c2 : Nat) : Int)))]) := (Ni.list (n := 2) (fun x hx => by
          simp only [List.mem_cons, List.not_mem_nil, or_false] at hx
          rcases hx with rfl | rfl
          · exact d1
          · exact d2) (by simp)).mono (Nat.le_refl _) (by decide)
        have nPart : Ni 1 200 (.tuple ((List.range c2).map fun j => .str (nm ps (dg R (c1 + j))))) := (Ni.tuple (n := 16) (fun x hx => by
          obtain ⟨c, _, rfl⟩ := List.mem_map.mp hx
          exact hp.nice _ (dlt _)) (by simp; omega)).mono (Nat.le_refl _) (by decide)
        simp only [e_var, k_val, k_own, e_glb, k_glb, k_cb, e_int, e_str, e_bl, e_non, e_bin, k_bin, j_bin, e_neg, k_neg, e_nt, k_nt, e_and, e_or, and1, and2, and_t, and_f, or1, or2, or_f, or_t, e_cmp, k_cmp, j_cmp, e_chn, k_chn, j_chn, l_chn, l_chf, e_ite, ite_t, ite_f, e_tup, k_tup, j_tup, e_lst, k_lst, j_lst, e_idx, k_idx, j_idx, e_slc, k_slc, j_slc, l_slc, o_nil, o_one, k_o, e_call, k_call, e_bif, k_bif, e_mth, k_mth, j_mth, e_isi, k_isi, e_lc, k_lc, j_lc, k_lce, k_lca_t, k_lca_f, k_lcb, ts_nil, ts_one, k_tb, e_dg, k_dg, e_dn, el_nil, el_cons, k_el, j_el, er_nil, er_cons, k_er, j_er, i_r1, k_r1, i_r2, k_r2, j_r2, i_en, k_enl, k_ent, i_zp, k_zp, j_zp, l_zp_ll, l_zp_tt, l_zp_tl, l_zp_lt, i_it, k_it, j_it, s_nil, s_seq, k_sqn, k_sqr, k_sqb, k_nx, s_asn, s_aso, ea, k_ea_f, k_ea_t, k_as, s_ast, k_ag, s_par, k_pa, j_pa, l_pa, s_aug, k_au, j_aua, j_aus, s_app, k_ap, j_ap, s_sit, k_si, j_si, l_si, s_a2, k_a2, j_a2, l_a2, s_dp, k_dp, j_dp, s_exp, k_ex, s_iff, k_ift, k_iff, s_for, k_fo, k_foe, s_whl, s_ret, k_re, s_retN, s_brk, s_pass, getS_zero, getS_succ, isOwn, putS, dats, c_lt, c_le, c_gt, c_ge, c_is_none, c_is_int, c_is_str, c_is_tup, c_is_lst, c_is_bool, c_isnot_none, c_isnot_int, c_isnot_str, c_isnot_tup, c_isnot_lst, c_isnot_bool, c_in_sgn, c_eq, c_ne, eqOk_str, eqOk_sh, b_add, b_sub, b_mul, b_mod, b_div, b_addl, b_addt, b_rep, l_lst, l_tup, l_str, i_int, x_lst, x_tup, x_str, m_min, it_l, it_t, it_s, t_lst, q_lst, q_tup, bif_len, bif_int, bif_min, bif_max, bif_sum, bif_sorted, bif_all, bif_any, bif_tuple, bif_list, bif_divmod, mth_count, mth_index, mth_join, List.length_cons, List.length_nil, if_true, if_false, Bool.false_eq_true, Bool.or_false, Bool.false_or, Bool.or_self, List.set_cons_zero, List.set_cons_succ, List.map_cons, List.map_nil, frzS, bG_tp, bG_nm, bGs_nil, bGs_cons, ob_some, gd_t, ob_t, at20, at21, eq_self, and_self, and_true, true_and, decide_true, decide_false, Bool.not_true, Bool.not_false, isi_none_int, isi_none_bool, isi_none_str, isi_none_tuple, isi_none_list, isi_bool_int, isi_bool_bool, isi_bool_str, isi_bool_tuple, isi_bool_list, isi_int_int, isi_int_bool, isi_int_str, isi_int_tuple, isi_int_list, isi_str_int, isi_str_bool, isi_str_str, isi_str_tuple, isi_str_list, isi_tuple_int, isi_tuple_bool, isi_tuple_str, isi_tuple_tuple, isi_tuple_list, isi_list_int, isi_list_bool, isi_list_str, isi_list_tuple, isi_list_list, Option.map_some, bif_repr, getS_set, getS_frz, length_frz, List.length_set, List.length_map, line, Nat.reduceAdd, Nat.reduceLT, Nat.reduceLeDiff, Nat.reduceEqDiff, Nat.zero_le, Nat.zero_lt_succ, Int.reduceAdd, Int.reduceSub, Int.reduceLT, Int.reduceLE, Int.reduceToNat, Int.reduceNeg, fit_lit, fit62_lit, Bool.and_self, Bool.and_true, Bool.true_and, Bool.not_eq_true, wipe_len, wipe_nil, getS_wipe, hL, e1, e2, e3, h0, h8, a12, a23, a123, atI_range (show c1 < 91 by omega), atI_range (show c1 + c2 < 91 by omega), atI_range (show c1 + c2 + c3 < 91 by omega)]
        rw [zip_sub (by simp only [e_var, k_val, k_own, e_glb, k_glb, k_cb, e_int, e_str, e_bl, e_non, e_bin, k_bin, j_bin, e_neg, k_neg, e_nt, k_nt, e_and, e_or, and1, and2, and_t, and_f, or1, or2, or_f, or_t, e_cmp, k_cmp, j_cmp, e_chn, k_chn, j_chn, l_chn, l_chf, e_ite, ite_t, ite_f, e_tup, k_tup, j_tup, e_lst, k_lst, j_lst, e_idx, k_idx, j_idx, e_slc, k_slc, j_slc, l_slc, o_nil, o_one, k_o, e_call, k_call, e_bif, k_bif, e_mth, k_mth, j_mth, e_isi, k_isi, e_lc, k_lc, j_lc, k_lce, k_lca_t, k_lca_f, k_lcb, ts_nil, ts_one, k_tb, e_dg, k_dg, e_dn, el_nil, el_cons, k_el, j_el, er_nil, er_cons, k_er, j_er, i_r1, k_r1, i_r2, k_r2, j_r2, i_en, k_enl, k_ent, i_zp, k_zp, j_zp, l_zp_ll, l_zp_tt, l_zp_tl, l_zp_lt, i_it, k_it, j_it, s_nil, s_seq, k_sqn, k_sqr, k_sqb, k_nx, s_asn, s_aso, ea, k_ea_f, k_ea_t, k_as, s_ast, k_ag, s_par, k_pa, j_pa, l_pa, s_aug, k_au, j_aua, j_aus, s_app, k_ap, j_ap, s_sit, k_si, j_si, l_si, s_a2, k_a2, j_a2, l_a2, s_dp, k_dp, j_dp, s_exp, k_ex, s_iff, k_ift, k_iff, s_for, k_fo, k_foe, s_whl, s_ret, k_re, s_retN, s_brk, s_pass, getS_zero, getS_succ, isOwn, putS, dats, c_lt, c_le, c_gt, c_ge, c_is_none, c_is_int, c_is_str, c_is_tup, c_is_lst, c_is_bool, c_isnot_none, c_isnot_int, c_isnot_str, c_isnot_tup, c_isnot_lst, c_isnot_bool, c_in_sgn, c_eq, c_ne, eqOk_str, eqOk_sh, b_add, b_sub, b_mul, b_mod, b_div, b_addl, b_addt, b_rep, l_lst, l_tup, l_str, i_int, x_lst, x_tup, x_str, m_min, it_l, it_t, it_s, t_lst, q_lst, q_tup, bif_len, bif_int, bif_min, bif_max, bif_sum, bif_sorted, bif_all, bif_any, bif_tuple, bif_list, bif_divmod, mth_count, mth_index, mth_join, List.length_cons, List.length_nil, if_true, if_false, Bool.false_eq_true, Bool.or_false, Bool.false_or, Bool.or_self, List.set_cons_zero, List.set_cons_succ, List.map_cons, List.map_nil, frzS, bG_tp, bG_nm, bGs_nil, bGs_cons, ob_some, gd_t, ob_t, at20, at21, eq_self, and_self, and_true, true_and, decide_true, decide_false, Bool.not_true, Bool.not_false, isi_none_int, isi_none_bool, isi_none_str, isi_none_tuple, isi_none_list, isi_bool_int, isi_bool_bool, isi_bool_str, isi_bool_tuple, isi_bool_list, isi_int_int, isi_int_bool, isi_int_str, isi_int_tuple, isi_int_list, isi_str_int, isi_str_bool, isi_str_str, isi_str_tuple, isi_str_list, isi_tuple_int, isi_tuple_bool, isi_tuple_str, isi_tuple_tuple, isi_tuple_list, isi_list_int, isi_list_bool, isi_list_str, isi_list_tuple, isi_list_list, Option.map_some, bif_repr, getS_set, getS_frz, length_frz, List.length_set, List.length_map, line, Nat.reduceAdd, Nat.reduceLT, Nat.reduceLeDiff, Nat.reduceEqDiff, Nat.zero_le, Nat.zero_lt_succ, Int.reduceAdd, Int.reduceSub, Int.reduceLT, Int.reduceLE, Int.reduceToNat, Int.reduceNeg, fit_lit, fit62_lit, Bool.and_self, Bool.and_true, Bool.true_and, Bool.not_eq_true, wipe_len, wipe_nil, getS_wipe, hL])]
        simp (disch := first | assumption | omega) only [e_var, k_val, k_own, e_glb, k_glb, k_cb, e_int, e_str, e_bl, e_non, e_bin, k_bin, j_bin, e_neg, k_neg, e_nt, k_nt, e_and, e_or, and1, and2, and_t, and_f, or1, or2, or_f, or_t, e_cmp, k_cmp, j_cmp, e_chn, k_chn, j_chn, l_chn, l_chf, e_ite, ite_t, ite_f, e_tup, k_tup, j_tup, e_lst, k_lst, j_lst, e_idx, k_idx, j_idx, e_slc, k_slc, j_slc, l_slc, o_nil, o_one, k_o, e_call, k_call, e_bif, k_bif, e_mth, k_mth, j_mth, e_isi, k_isi, e_lc, k_lc, j_lc, k_lce, k_lca_t, k_lca_f, k_lcb, ts_nil, ts_one, k_tb, e_dg, k_dg, e_dn, el_nil, el_cons, k_el, j_el, er_nil, er_cons, k_er, j_er, i_r1, k_r1, i_r2, k_r2, j_r2, i_en, k_enl, k_ent, i_zp, k_zp, j_zp, l_zp_ll, l_zp_tt, l_zp_tl, l_zp_lt, i_it, k_it, j_it, s_nil, s_seq, k_sqn, k_sqr, k_sqb, k_nx, s_asn, s_aso, ea, k_ea_f, k_ea_t, k_as, s_ast, k_ag, s_par, k_pa, j_pa, l_pa, s_aug, k_au, j_aua, j_aus, s_app, k_ap, j_ap, s_sit, k_si, j_si, l_si, s_a2, k_a2, j_a2, l_a2, s_dp, k_dp, j_dp, s_exp, k_ex, s_iff, k_ift, k_iff, s_for, k_fo, k_foe, s_whl, s_ret, k_re, s_retN, s_brk, s_pass, getS_zero, getS_succ, isOwn, putS, dats, c_lt, c_le, c_gt, c_ge, c_is_none, c_is_int, c_is_str, c_is_tup, c_is_lst, c_is_bool, c_isnot_none, c_isnot_int, c_isnot_str, c_isnot_tup, c_isnot_lst, c_isnot_bool, c_in_sgn, c_eq, c_ne, eqOk_str, eqOk_sh, b_add, b_sub, b_mul, b_mod, b_div, b_addl, b_addt, b_rep, l_lst, l_tup, l_str, i_int, x_lst, x_tup, x_str, m_min, it_l, it_t, it_s, t_lst, q_lst, q_tup, bif_len, bif_int, bif_min, bif_max, bif_sum, bif_sorted, bif_all, bif_any, bif_tuple, bif_list, bif_divmod, mth_count, mth_index, mth_join, List.length_cons, List.length_nil, if_true, if_false, Bool.false_eq_true, Bool.or_false, Bool.false_or, Bool.or_self, List.set_cons_zero, List.set_cons_succ, List.map_cons, List.map_nil, frzS, bG_tp, bG_nm, bGs_nil, bGs_cons, ob_some, gd_t, ob_t, at20, at21, eq_self, and_self, and_true, true_and, decide_true, decide_false, Bool.not_true, Bool.not_false, isi_none_int, isi_none_bool, isi_none_str, isi_none_tuple, isi_none_list, isi_bool_int, isi_bool_bool, isi_bool_str, isi_bool_tuple, isi_bool_list, isi_int_int, isi_int_bool, isi_int_str, isi_int_tuple, isi_int_list, isi_str_int, isi_str_bool, isi_str_str, isi_str_tuple, isi_str_list, isi_tuple_int, isi_tuple_bool, isi_tuple_str, isi_tuple_tuple, isi_tuple_list, isi_list_int, isi_list_bool, isi_list_str, isi_list_tuple, isi_list_list, Option.map_some, bif_repr, getS_set, getS_frz, length_frz, List.length_set, List.length_map, line, Nat.reduceAdd, Nat.reduceLT, Nat.reduceLeDiff, Nat.reduceEqDiff, Nat.zero_le, Nat.zero_lt_succ, Int.reduceAdd, Int.reduceSub, Int.reduceLT, Int.reduceLE, Int.reduceToNat, Int.reduceNeg, fit_lit, fit62_lit, Bool.and_self, Bool.and_true, Bool.true_and, Bool.not_eq_true, wipe_len, wipe_nil, getS_wipe, ite_line, ite_ltline, fit62_of, fitI_of, mod_pos, ite_and, dec_le, dec_nle, dec_lt, dec_nlt, dec_eq, dec_neq, ite_le, ite_nle, ite_lt, ite_nlt, hL, e1, e2, e3, h0, h1, h8, a12, a23, a123, List.length_range, atI_range (show c1 + c2 < 91 by omega), atI_range (show c1 + c2 + c3 < 91 by omega)]
        rw [zip_sub (by simp only [e_var, k_val, k_own, e_glb, k_glb, k_cb, e_int, e_str, e_bl, e_non, e_bin, k_bin, j_bin, e_neg, k_neg, e_nt, k_nt, e_and, e_or, and1, and2, and_t, and_f, or1, or2, or_f, or_t, e_cmp, k_cmp, j_cmp, e_chn, k_chn, j_chn, l_chn, l_chf, e_ite, ite_t, ite_f, e_tup, k_tup, j_tup, e_lst, k_lst, j_lst, e_idx, k_idx, j_idx, e_slc, k_slc, j_slc, l_slc, o_nil, o_one, k_o, e_call, k_call, e_bif, k_bif, e_mth, k_mth, j_mth, e_isi, k_isi, e_lc, k_lc, j_lc, k_lce, k_lca_t, k_lca_f, k_lcb, ts_nil, ts_one, k_tb, e_dg, k_dg, e_dn, el_nil, el_cons, k_el, j_el, er_nil, er_cons, k_er, j_er, i_r1, k_r1, i_r2, k_r2, j_r2, i_en, k_enl, k_ent, i_zp, k_zp, j_zp, l_zp_ll, l_zp_tt, l_zp_tl, l_zp_lt, i_it, k_it, j_it, s_nil, s_seq, k_sqn, k_sqr, k_sqb, k_nx, s_asn, s_aso, ea, k_ea_f, k_ea_t, k_as, s_ast, k_ag, s_par, k_pa, j_pa, l_pa, s_aug, k_au, j_aua, j_aus, s_app, k_ap, j_ap, s_sit, k_si, j_si, l_si, s_a2, k_a2, j_a2, l_a2, s_dp, k_dp, j_dp, s_exp, k_ex, s_iff, k_ift, k_iff, s_for, k_fo, k_foe, s_whl, s_ret, k_re, s_retN, s_brk, s_pass, getS_zero, getS_succ, isOwn, putS, dats, c_lt, c_le, c_gt, c_ge, c_is_none, c_is_int, c_is_str, c_is_tup, c_is_lst, c_is_bool, c_isnot_none, c_isnot_int, c_isnot_str, c_isnot_tup, c_isnot_lst, c_isnot_bool, c_in_sgn, c_eq, c_ne, eqOk_str, eqOk_sh, b_add, b_sub, b_mul, b_mod, b_div, b_addl, b_addt, b_rep, l_lst, l_tup, l_str, i_int, x_lst, x_tup, x_str, m_min, it_l, it_t, it_s, t_lst, q_lst, q_tup, bif_len, bif_int, bif_min, bif_max, bif_sum, bif_sorted, bif_all, bif_any, bif_tuple, bif_list, bif_divmod, mth_count, mth_index, mth_join, List.length_cons, List.length_nil, if_true, if_false, Bool.false_eq_true, Bool.or_false, Bool.false_or, Bool.or_self, List.set_cons_zero, List.set_cons_succ, List.map_cons, List.map_nil, frzS, bG_tp, bG_nm, bGs_nil, bGs_cons, ob_some, gd_t, ob_t, at20, at21, eq_self, and_self, and_true, true_and, decide_true, decide_false, Bool.not_true, Bool.not_false, isi_none_int, isi_none_bool, isi_none_str, isi_none_tuple, isi_none_list, isi_bool_int, isi_bool_bool, isi_bool_str, isi_bool_tuple, isi_bool_list, isi_int_int, isi_int_bool, isi_int_str, isi_int_tuple, isi_int_list, isi_str_int, isi_str_bool, isi_str_str, isi_str_tuple, isi_str_list, isi_tuple_int, isi_tuple_bool, isi_tuple_str, isi_tuple_tuple, isi_tuple_list, isi_list_int, isi_list_bool, isi_list_str, isi_list_tuple, isi_list_list, Option.map_some, bif_repr, getS_set, getS_frz, length_frz, List.length_set, List.length_map, line, Nat.reduceAdd, Nat.reduceLT, Nat.reduceLeDiff, Nat.reduceEqDiff, Nat.zero_le, Nat.zero_lt_succ, Int.reduceAdd, Int.reduceSub, Int.reduceLT, Int.reduceLE, Int.reduceToNat, Int.reduceNeg, fit_lit, fit62_lit, Bool.and_self, Bool.and_true, Bool.true_and, Bool.not_eq_true, wipe_len, wipe_nil, getS_wipe, hL])]
        simp (disch := first | assumption | omega) only [e_var, k_val, k_own, e_glb, k_glb, k_cb, e_int, e_str, e_bl, e_non, e_bin, k_bin, j_bin, e_neg, k_neg, e_nt, k_nt, e_and, e_or, and1, and2, and_t, and_f, or1, or2, or_f, or_t, e_cmp, k_cmp, j_cmp, e_chn, k_chn, j_chn, l_chn, l_chf, e_ite, ite_t, ite_f, e_tup, k_tup, j_tup, e_lst, k_lst, j_lst, e_idx, k_idx, j_idx, e_slc, k_slc, j_slc, l_slc, o_nil, o_one, k_o, e_call, k_call, e_bif, k_bif, e_mth, k_mth, j_mth, e_isi, k_isi, e_lc, k_lc, j_lc, k_lce, k_lca_t, k_lca_f, k_lcb, ts_nil, ts_one, k_tb, e_dg, k_dg, e_dn, el_nil, el_cons, k_el, j_el, er_nil, er_cons, k_er, j_er, i_r1, k_r1, i_r2, k_r2, j_r2, i_en, k_enl, k_ent, i_zp, k_zp, j_zp, l_zp_ll, l_zp_tt, l_zp_tl, l_zp_lt, i_it, k_it, j_it, s_nil, s_seq, k_sqn, k_sqr, k_sqb, k_nx, s_asn, s_aso, ea, k_ea_f, k_ea_t, k_as, s_ast, k_ag, s_par, k_pa, j_pa, l_pa, s_aug, k_au, j_aua, j_aus, s_app, k_ap, j_ap, s_sit, k_si, j_si, l_si, s_a2, k_a2, j_a2, l_a2, s_dp, k_dp, j_dp, s_exp, k_ex, s_iff, k_ift, k_iff, s_for, k_fo, k_foe, s_whl, s_ret, k_re, s_retN, s_brk, s_pass, getS_zero, getS_succ, isOwn, putS, dats, c_lt, c_le, c_gt, c_ge, c_is_none, c_is_int, c_is_str, c_is_tup, c_is_lst, c_is_bool, c_isnot_none, c_isnot_int, c_isnot_str, c_isnot_tup, c_isnot_lst, c_isnot_bool, c_in_sgn, c_eq, c_ne, eqOk_str, eqOk_sh, b_add, b_sub, b_mul, b_mod, b_div, b_addl, b_addt, b_rep, l_lst, l_tup, l_str, i_int, x_lst, x_tup, x_str, m_min, it_l, it_t, it_s, t_lst, q_lst, q_tup, bif_len, bif_int, bif_min, bif_max, bif_sum, bif_sorted, bif_all, bif_any, bif_tuple, bif_list, bif_divmod, mth_count, mth_index, mth_join, List.length_cons, List.length_nil, if_true, if_false, Bool.false_eq_true, Bool.or_false, Bool.false_or, Bool.or_self, List.set_cons_zero, List.set_cons_succ, List.map_cons, List.map_nil, frzS, bG_tp, bG_nm, bGs_nil, bGs_cons, ob_some, gd_t, ob_t, at20, at21, eq_self, and_self, and_true, true_and, decide_true, decide_false, Bool.not_true, Bool.not_false, isi_none_int, isi_none_bool, isi_none_str, isi_none_tuple, isi_none_list, isi_bool_int, isi_bool_bool, isi_bool_str, isi_bool_tuple, isi_bool_list, isi_int_int, isi_int_bool, isi_int_str, isi_int_tuple, isi_int_list, isi_str_int, isi_str_bool, isi_str_str, isi_str_tuple, isi_str_list, isi_tuple_int, isi_tuple_bool, isi_tuple_str, isi_tuple_tuple, isi_tuple_list, isi_list_int, isi_list_bool, isi_list_str, isi_list_tuple, isi_list_list, Option.map_some, bif_repr, getS_set, getS_frz, length_frz, List.length_set, List.length_map, line, Nat.reduceAdd, Nat.reduceLT, Nat.reduceLeDiff, Nat.reduceEqDiff, Nat.zero_le, Nat.zero_lt_succ, Int.reduceAdd, Int.reduceSub, Int.reduceLT, Int.reduceLE, Int.reduceToNat, Int.reduceNeg, fit_lit, fit62_lit, Bool.and_self, Bool.and_true, Bool.true_and, Bool.not_eq_true, wipe_len, wipe_nil, getS_wipe, ite_line, ite_ltline, fit62_of, fitI_of, mod_pos, ite_and, dec_le, dec_nle, dec_lt, dec_nlt, dec_eq, dec_neq, ite_le, ite_nle, ite_lt, ite_nlt, hL, h1, a12, List.length_range, List.cons_append, List.nil_append, g1, g2, nTwo.repr (by decide) (by decide), eqv_str]
        simp (disch := first | assumption | omega) only [e_var, k_val, k_own, e_glb, k_glb, k_cb, e_int, e_str, e_bl, e_non, e_bin, k_bin, j_bin, e_neg, k_neg, e_nt, k_nt, e_and, e_or, and1, and2, and_t, and_f, or1, or2, or_f, or_t, e_cmp, k_cmp, j_cmp, e_chn, k_chn, j_chn, l_chn, l_chf, e_ite, ite_t, ite_f, e_tup, k_tup, j_tup, e_lst, k_lst, j_lst, e_idx, k_idx, j_idx, e_slc, k_slc, j_slc, l_slc, o_nil, o_one, k_o, e_call, k_call, e_bif, k_bif, e_mth, k_mth, j_mth, e_isi, k_isi, e_lc, k_lc, j_lc, k_lce, k_lca_t, k_lca_f, k_lcb, ts_nil, ts_one, k_tb, e_dg, k_dg, e_dn, el_nil, el_cons, k_el, j_el, er_nil, er_cons, k_er, j_er, i_r1, k_r1, i_r2, k_r2, j_r2, i_en, k_enl, k_ent, i_zp, k_zp, j_zp, l_zp_ll, l_zp_tt, l_zp_tl, l_zp_lt, i_it, k_it, j_it, s_nil, s_seq, k_sqn, k_sqr, k_sqb, k_nx, s_asn, s_aso, ea, k_ea_f, k_ea_t, k_as, s_ast, k_ag, s_par, k_pa, j_pa, l_pa, s_aug, k_au, j_aua, j_aus, s_app, k_ap, j_ap, s_sit, k_si, j_si, l_si, s_a2, k_a2, j_a2, l_a2, s_dp, k_dp, j_dp, s_exp, k_ex, s_iff, k_ift, k_iff, s_for, k_fo, k_foe, s_whl, s_ret, k_re, s_retN, s_brk, s_pass, getS_zero, getS_succ, isOwn, putS, dats, c_lt, c_le, c_gt, c_ge, c_is_none, c_is_int, c_is_str, c_is_tup, c_is_lst, c_is_bool, c_isnot_none, c_isnot_int, c_isnot_str, c_isnot_tup, c_isnot_lst, c_isnot_bool, c_in_sgn, c_eq, c_ne, eqOk_str, eqOk_sh, b_add, b_sub, b_mul, b_mod, b_div, b_addl, b_addt, b_rep, l_lst, l_tup, l_str, i_int, x_lst, x_tup, x_str, m_min, it_l, it_t, it_s, t_lst, q_lst, q_tup, bif_len, bif_int, bif_min, bif_max, bif_sum, bif_sorted, bif_all, bif_any, bif_tuple, bif_list, bif_divmod, mth_count, mth_index, mth_join, List.length_cons, List.length_nil, if_true, if_false, Bool.false_eq_true, Bool.or_false, Bool.false_or, Bool.or_self, List.set_cons_zero, List.set_cons_succ, List.map_cons, List.map_nil, frzS, bG_tp, bG_nm, bGs_nil, bGs_cons, ob_some, gd_t, ob_t, at20, at21, eq_self, and_self, and_true, true_and, decide_true, decide_false, Bool.not_true, Bool.not_false, isi_none_int, isi_none_bool, isi_none_str, isi_none_tuple, isi_none_list, isi_bool_int, isi_bool_bool, isi_bool_str, isi_bool_tuple, isi_bool_list, isi_int_int, isi_int_bool, isi_int_str, isi_int_tuple, isi_int_list, isi_str_int, isi_str_bool, isi_str_str, isi_str_tuple, isi_str_list, isi_tuple_int, isi_tuple_bool, isi_tuple_str, isi_tuple_tuple, isi_tuple_list, isi_list_int, isi_list_bool, isi_list_str, isi_list_tuple, isi_list_list, Option.map_some, bif_repr, getS_set, getS_frz, length_frz, List.length_set, List.length_map, line, Nat.reduceAdd, Nat.reduceLT, Nat.reduceLeDiff, Nat.reduceEqDiff, Nat.zero_le, Nat.zero_lt_succ, Int.reduceAdd, Int.reduceSub, Int.reduceLT, Int.reduceLE, Int.reduceToNat, Int.reduceNeg, fit_lit, fit62_lit, Bool.and_self, Bool.and_true, Bool.true_and, Bool.not_eq_true, wipe_len, wipe_nil, getS_wipe, ite_line, ite_ltline, fit62_of, fitI_of, mod_pos, ite_and, dec_le, dec_nle, dec_lt, dec_nlt, dec_eq, dec_neq, ite_le, ite_nle, ite_lt, ite_nlt, hL, h1, h3, a12, a23, List.length_range, rp, slice_range (show c1 ≤ c1 + c2 by omega) (show c1 + c2 ≤ 90 by omega), Nat.add_sub_cancel_left, nPart.repr (by decide) (by decide), eqv_str]
        rw [zip_add (by simp only [e_var, k_val, k_own, e_glb, k_glb, k_cb, e_int, e_str, e_bl, e_non, e_bin, k_bin, j_bin, e_neg, k_neg, e_nt, k_nt, e_and, e_or, and1, and2, and_t, and_f, or1, or2, or_f, or_t, e_cmp, k_cmp, j_cmp, e_chn, k_chn, j_chn, l_chn, l_chf, e_ite, ite_t, ite_f, e_tup, k_tup, j_tup, e_lst, k_lst, j_lst, e_idx, k_idx, j_idx, e_slc, k_slc, j_slc, l_slc, o_nil, o_one, k_o, e_call, k_call, e_bif, k_bif, e_mth, k_mth, j_mth, e_isi, k_isi, e_lc, k_lc, j_lc, k_lce, k_lca_t, k_lca_f, k_lcb, ts_nil, ts_one, k_tb, e_dg, k_dg, e_dn, el_nil, el_cons, k_el, j_el, er_nil, er_cons, k_er, j_er, i_r1, k_r1, i_r2, k_r2, j_r2, i_en, k_enl, k_ent, i_zp, k_zp, j_zp, l_zp_ll, l_zp_tt, l_zp_tl, l_zp_lt, i_it, k_it, j_it, s_nil, s_seq, k_sqn, k_sqr, k_sqb, k_nx, s_asn, s_aso, ea, k_ea_f, k_ea_t, k_as, s_ast, k_ag, s_par, k_pa, j_pa, l_pa, s_aug, k_au, j_aua, j_aus, s_app, k_ap, j_ap, s_sit, k_si, j_si, l_si, s_a2, k_a2, j_a2, l_a2, s_dp, k_dp, j_dp, s_exp, k_ex, s_iff, k_ift, k_iff, s_for, k_fo, k_foe, s_whl, s_ret, k_re, s_retN, s_brk, s_pass, getS_zero, getS_succ, isOwn, putS, dats, c_lt, c_le, c_gt, c_ge, c_is_none, c_is_int, c_is_str, c_is_tup, c_is_lst, c_is_bool, c_isnot_none, c_isnot_int, c_isnot_str, c_isnot_tup, c_isnot_lst, c_isnot_bool, c_in_sgn, c_eq, c_ne, eqOk_str, eqOk_sh, b_add, b_sub, b_mul, b_mod, b_div, b_addl, b_addt, b_rep, l_lst, l_tup, l_str, i_int, x_lst, x_tup, x_str, m_min, it_l, it_t, it_s, t_lst, q_lst, q_tup, bif_len, bif_int, bif_min, bif_max, bif_sum, bif_sorted, bif_all, bif_any, bif_tuple, bif_list, bif_divmod, mth_count, mth_index, mth_join, List.length_cons, List.length_nil, if_true, if_false, Bool.false_eq_true, Bool.or_false, Bool.false_or, Bool.or_self, List.set_cons_zero, List.set_cons_succ, List.map_cons, List.map_nil, frzS, bG_tp, bG_nm, bGs_nil, bGs_cons, ob_some, gd_t, ob_t, at20, at21, eq_self, and_self, and_true, true_and, decide_true, decide_false, Bool.not_true, Bool.not_false, isi_none_int, isi_none_bool, isi_none_str, isi_none_tuple, isi_none_list, isi_bool_int, isi_bool_bool, isi_bool_str, isi_bool_tuple, isi_bool_list, isi_int_int, isi_int_bool, isi_int_str, isi_int_tuple, isi_int_list, isi_str_int, isi_str_bool, isi_str_str, isi_str_tuple, isi_str_list, isi_tuple_int, isi_tuple_bool, isi_tuple_str, isi_tuple_tuple, isi_tuple_list, isi_list_int, isi_list_bool, isi_list_str, isi_list_tuple, isi_list_list, Option.map_some, bif_repr, getS_set, getS_frz, length_frz, List.length_set, List.length_map, line, Nat.reduceAdd, Nat.reduceLT, Nat.reduceLeDiff, Nat.reduceEqDiff, Nat.zero_le, Nat.zero_lt_succ, Int.reduceAdd, Int.reduceSub, Int.reduceLT, Int.reduceLE, Int.reduceToNat, Int.reduceNeg, fit_lit, fit62_lit, Bool.and_self, Bool.and_true, Bool.true_and, Bool.not_eq_true, wipe_len, wipe_nil, getS_wipe, hL])]
        simp (disch := first | assumption | omega) only [e_var, k_val, k_own, e_glb, k_glb, k_cb, e_int, e_str, e_bl, e_non, e_bin, k_bin, j_bin, e_neg, k_neg, e_nt, k_nt, e_and, e_or, and1, and2, and_t, and_f, or1, or2, or_f, or_t, e_cmp, k_cmp, j_cmp, e_chn, k_chn, j_chn, l_chn, l_chf, e_ite, ite_t, ite_f, e_tup, k_tup, j_tup, e_lst, k_lst, j_lst, e_idx, k_idx, j_idx, e_slc, k_slc, j_slc, l_slc, o_nil, o_one, k_o, e_call, k_call, e_bif, k_bif, e_mth, k_mth, j_mth, e_isi, k_isi, e_lc, k_lc, j_lc, k_lce, k_lca_t, k_lca_f, k_lcb, ts_nil, ts_one, k_tb, e_dg, k_dg, e_dn, el_nil, el_cons, k_el, j_el, er_nil, er_cons, k_er, j_er, i_r1, k_r1, i_r2, k_r2, j_r2, i_en, k_enl, k_ent, i_zp, k_zp, j_zp, l_zp_ll, l_zp_tt, l_zp_tl, l_zp_lt, i_it, k_it, j_it, s_nil, s_seq, k_sqn, k_sqr, k_sqb, k_nx, s_asn, s_aso, ea, k_ea_f, k_ea_t, k_as, s_ast, k_ag, s_par, k_pa, j_pa, l_pa, s_aug, k_au, j_aua, j_aus, s_app, k_ap, j_ap, s_sit, k_si, j_si, l_si, s_a2, k_a2, j_a2, l_a2, s_dp, k_dp, j_dp, s_exp, k_ex, s_iff, k_ift, k_iff, s_for, k_fo, k_foe, s_whl, s_ret, k_re, s_retN, s_brk, s_pass, getS_zero, getS_succ, isOwn, putS, dats, c_lt, c_le, c_gt, c_ge, c_is_none, c_is_int, c_is_str, c_is_tup, c_is_lst, c_is_bool, c_isnot_none, c_isnot_int, c_isnot_str, c_isnot_tup, c_isnot_lst, c_isnot_bool, c_in_sgn, c_eq, c_ne, eqOk_str, eqOk_sh, b_add, b_sub, b_mul, b_mod, b_div, b_addl, b_addt, b_rep, l_lst, l_tup, l_str, i_int, x_lst, x_tup, x_str, m_min, it_l, it_t, it_s, t_lst, q_lst, q_tup, bif_len, bif_int, bif_min, bif_max, bif_sum, bif_sorted, bif_all, bif_any, bif_tuple, bif_list, bif_divmod, mth_count, mth_index, mth_join, List.length_cons, List.length_nil, if_true, if_false, Bool.false_eq_true, Bool.or_false, Bool.false_or, Bool.or_self, List.set_cons_zero, List.set_cons_succ, List.map_cons, List.map_nil, frzS, bG_tp, bG_nm, bGs_nil, bGs_cons, ob_some, gd_t, ob_t, at20, at21, eq_self, and_self, and_true, true_and, decide_true, decide_false, Bool.not_true, Bool.not_false, isi_none_int, isi_none_bool, isi_none_str, isi_none_tuple, isi_none_list, isi_bool_int, isi_bool_bool, isi_bool_str, isi_bool_tuple, isi_bool_list, isi_int_int, isi_int_bool, isi_int_str, isi_int_tuple, isi_int_list, isi_str_int, isi_str_bool, isi_str_str, isi_str_tuple, isi_str_list, isi_tuple_int, isi_tuple_bool, isi_tuple_str, isi_tuple_tuple, isi_tuple_list, isi_list_int, isi_list_bool, isi_list_str, isi_list_tuple, isi_list_list, Option.map_some, bif_repr, getS_set, getS_frz, length_frz, List.length_set, List.length_map, line, Nat.reduceAdd, Nat.reduceLT, Nat.reduceLeDiff, Nat.reduceEqDiff, Nat.zero_le, Nat.zero_lt_succ, Int.reduceAdd, Int.reduceSub, Int.reduceLT, Int.reduceLE, Int.reduceToNat, Int.reduceNeg, fit_lit, fit62_lit, Bool.and_self, Bool.and_true, Bool.true_and, Bool.not_eq_true, wipe_len, wipe_nil, getS_wipe, ite_line, ite_ltline, fit62_of, fitI_of, mod_pos, ite_and, dec_le, dec_nle, dec_lt, dec_nlt, dec_eq, dec_neq, ite_le, ite_nle, ite_lt, ite_nlt, hL, h1, h2, a23, List.length_range, g3]
        have hboth : (fun d => PyData.int (cby R d ((c1 + c2 : Nat) : Int) - cby R d (c1 : Int) + (cby R d ((c1 + c2 + c3 : Nat) : Int) - cby R d ((c1 + c2 : Nat) : Int)))) = fun d => PyData.int (cby R d ((c1 + (c2 + c3) : Nat) : Int) - cby R d (c1 : Int)) := by
          funext d
          rw [Nat.add_assoc]
          congr 1
          omega
        have hzero : (fun d => PyData.int (cby R d ((c1 + 0 : Nat) : Int) - cby R d (c1 : Int))) = fun _ => PyData.int 0 := by
          funext d
          rw [Nat.add_zero]
          congr 1
          omega
        rw [hzero] at g4
        have g4' : runF tbl glb wf (n + 4) "gets" [.dat (dealD ps R), .dat (.int (c1 : Int)), .dat (.int 0)] st3 = .ok (.dat (.tuple ((List.range ps.length).map fun _ => .int 0)), st3) := g4
        have s3 := d3.shaped (by decide)
        have s0 : SeqAt.shaped (.tuple ((List.range ps.length).map fun _ => .int 0)) = true := by
          have := shaped_tup ((List.range ps.length).map fun _ => 0)
          rwa [List.map_map] at this
        rw [hboth, eqOk_sh s3 s3, eqv_self d3.ok]
        simp only [e_var, k_val, k_own, e_glb, k_glb, k_cb, e_int, e_str, e_bl, e_non, e_bin, k_bin, j_bin, e_neg, k_neg, e_nt, k_nt, e_and, e_or, and1, and2, and_t, and_f, or1, or2, or_f, or_t, e_cmp, k_cmp, j_cmp, e_chn, k_chn, j_chn, l_chn, l_chf, e_ite, ite_t, ite_f, e_tup, k_tup, j_tup, e_lst, k_lst, j_lst, e_idx, k_idx, j_idx, e_slc, k_slc, j_slc, l_slc, o_nil, o_one, k_o, e_call, k_call, e_bif, k_bif, e_mth, k_mth, j_mth, e_isi, k_isi, e_lc, k_lc, j_lc, k_lce, k_lca_t, k_lca_f, k_lcb, ts_nil, ts_one, k_tb, e_dg, k_dg, e_dn, el_nil, el_cons, k_el, j_el, er_nil, er_cons, k_er, j_er, i_r1, k_r1, i_r2, k_r2, j_r2, i_en, k_enl, k_ent, i_zp, k_zp, j_zp, l_zp_ll, l_zp_tt, l_zp_tl, l_zp_lt, i_it, k_it, j_it, s_nil, s_seq, k_sqn, k_sqr, k_sqb, k_nx, s_asn, s_aso, ea, k_ea_f, k_ea_t, k_as, s_ast, k_ag, s_par, k_pa, j_pa, l_pa, s_aug, k_au, j_aua, j_aus, s_app, k_ap, j_ap, s_sit, k_si, j_si, l_si, s_a2, k_a2, j_a2, l_a2, s_dp, k_dp, j_dp, s_exp, k_ex, s_iff, k_ift, k_iff, s_for, k_fo, k_foe, s_whl, s_ret, k_re, s_retN, s_brk, s_pass, getS_zero, getS_succ, isOwn, putS, dats, c_lt, c_le, c_gt, c_ge, c_is_none, c_is_int, c_is_str, c_is_tup, c_is_lst, c_is_bool, c_isnot_none, c_isnot_int, c_isnot_str, c_isnot_tup, c_isnot_lst, c_isnot_bool, c_in_sgn, c_eq, c_ne, eqOk_str, eqOk_sh, b_add, b_sub, b_mul, b_mod, b_div, b_addl, b_addt, b_rep, l_lst, l_tup, l_str, i_int, x_lst, x_tup, x_str, m_min, it_l, it_t, it_s, t_lst, q_lst, q_tup, bif_len, bif_int, bif_min, bif_max, bif_sum, bif_sorted, bif_all, bif_any, bif_tuple, bif_list, bif_divmod, mth_count, mth_index, mth_join, List.length_cons, List.length_nil, if_true, if_false, Bool.false_eq_true, Bool.or_false, Bool.false_or, Bool.or_self, List.set_cons_zero, List.set_cons_succ, List.map_cons, List.map_nil, frzS, bG_tp, bG_nm, bGs_nil, bGs_cons, ob_some, gd_t, ob_t, at20, at21, eq_self, and_self, and_true, true_and, decide_true, decide_false, Bool.not_true, Bool.not_false, isi_none_int, isi_none_bool, isi_none_str, isi_none_tuple, isi_none_list, isi_bool_int, isi_bool_bool, isi_bool_str, isi_bool_tuple, isi_bool_list, isi_int_int, isi_int_bool, isi_int_str, isi_int_tuple, isi_int_list, isi_str_int, isi_str_bool, isi_str_str, isi_str_tuple, isi_str_list, isi_tuple_int, isi_tuple_bool, isi_tuple_str, isi_tuple_tuple, isi_tuple_list, isi_list_int, isi_list_bool, isi_list_str, isi_list_tuple, isi_list_list, Option.map_some, bif_repr, getS_set, getS_frz, length_frz, List.length_set, List.length_map, line, Nat.reduceAdd, Nat.reduceLT, Nat.reduceLeDiff, Nat.reduceEqDiff, Nat.zero_le, Nat.zero_lt_succ, Int.reduceAdd, Int.reduceSub, Int.reduceLT, Int.reduceLE, Int.reduceToNat, Int.reduceNeg, fit_lit, fit62_lit, Bool.and_self, Bool.and_true, Bool.true_and, Bool.not_eq_true, wipe_len, wipe_nil, getS_wipe, hL, h1, h2, g4']
        rw [b_rept (by omega) (by omega) (by decide) (by decide), Int.toNat_natCast, zeros]
        simp only [e_var, k_val, k_own, e_glb, k_glb, k_cb, e_int, e_str, e_bl, e_non, e_bin, k_bin, j_bin, e_neg, k_neg, e_nt, k_nt, e_and, e_or, and1, and2, and_t, and_f, or1, or2, or_f, or_t, e_cmp, k_cmp, j_cmp, e_chn, k_chn, j_chn, l_chn, l_chf, e_ite, ite_t, ite_f, e_tup, k_tup, j_tup, e_lst, k_lst, j_lst, e_idx, k_idx, j_idx, e_slc, k_slc, j_slc, l_slc, o_nil, o_one, k_o, e_call, k_call, e_bif, k_bif, e_mth, k_mth, j_mth, e_isi, k_isi, e_lc, k_lc, j_lc, k_lce, k_lca_t, k_lca_f, k_lcb, ts_nil, ts_one, k_tb, e_dg, k_dg, e_dn, el_nil, el_cons, k_el, j_el, er_nil, er_cons, k_er, j_er, i_r1, k_r1, i_r2, k_r2, j_r2, i_en, k_enl, k_ent, i_zp, k_zp, j_zp, l_zp_ll, l_zp_tt, l_zp_tl, l_zp_lt, i_it, k_it, j_it, s_nil, s_seq, k_sqn, k_sqr, k_sqb, k_nx, s_asn, s_aso, ea, k_ea_f, k_ea_t, k_as, s_ast, k_ag, s_par, k_pa, j_pa, l_pa, s_aug, k_au, j_aua, j_aus, s_app, k_ap, j_ap, s_sit, k_si, j_si, l_si, s_a2, k_a2, j_a2, l_a2, s_dp, k_dp, j_dp, s_exp, k_ex, s_iff, k_ift, k_iff, s_for, k_fo, k_foe, s_whl, s_ret, k_re, s_retN, s_brk, s_pass, getS_zero, getS_succ, isOwn, putS, dats, c_lt, c_le, c_gt, c_ge, c_is_none, c_is_int, c_is_str, c_is_tup, c_is_lst, c_is_bool, c_isnot_none, c_isnot_int, c_isnot_str, c_isnot_tup, c_isnot_lst, c_isnot_bool, c_in_sgn, c_eq, c_ne, eqOk_str, eqOk_sh, b_add, b_sub, b_mul, b_mod, b_div, b_addl, b_addt, b_rep, l_lst, l_tup, l_str, i_int, x_lst, x_tup, x_str, m_min, it_l, it_t, it_s, t_lst, q_lst, q_tup, bif_len, bif_int, bif_min, bif_max, bif_sum, bif_sorted, bif_all, bif_any, bif_tuple, bif_list, bif_divmod, mth_count, mth_index, mth_join, List.length_cons, List.length_nil, if_true, if_false, Bool.false_eq_true, Bool.or_false, Bool.false_or, Bool.or_self, List.set_cons_zero, List.set_cons_succ, List.map_cons, List.map_nil, frzS, bG_tp, bG_nm, bGs_nil, bGs_cons, ob_some, gd_t, ob_t, at20, at21, eq_self, and_self, and_true, true_and, decide_true, decide_false, Bool.not_true, Bool.not_false, isi_none_int, isi_none_bool, isi_none_str, isi_none_tuple, isi_none_list, isi_bool_int, isi_bool_bool, isi_bool_str, isi_bool_tuple, isi_bool_list, isi_int_int, isi_int_bool, isi_int_str, isi_int_tuple, isi_int_list, isi_str_int, isi_str_bool, isi_str_str, isi_str_tuple, isi_str_list, isi_tuple_int, isi_tuple_bool, isi_tuple_str, isi_tuple_tuple, isi_tuple_list, isi_list_int, isi_list_bool, isi_list_str, isi_list_tuple, isi_list_list, Option.map_some, bif_repr, getS_set, getS_frz, length_frz, List.length_set, List.length_map, line, Nat.reduceAdd, Nat.reduceLT, Nat.reduceLeDiff, Nat.reduceEqDiff, Nat.zero_le, Nat.zero_lt_succ, Int.reduceAdd, Int.reduceSub, Int.reduceLT, Int.reduceLE, Int.reduceToNat, Int.reduceNeg, fit_lit, fit62_lit, Bool.and_self, Bool.and_true, Bool.true_and, Bool.not_eq_true, wipe_len, wipe_nil, getS_wipe]
        rw [eqOk_sh s0 s0, eqv_rep]
        simp only [e_var, k_val, k_own, e_glb, k_glb, k_cb, e_int, e_str, e_bl, e_non, e_bin, k_bin, j_bin, e_neg, k_neg, e_nt, k_nt, e_and, e_or, and1, and2, and_t, and_f, or1, or2, or_f, or_t, e_cmp, k_cmp, j_cmp, e_chn, k_chn, j_chn, l_chn, l_chf, e_ite, ite_t, ite_f, e_tup, k_tup, j_tup, e_lst, k_lst, j_lst, e_idx, k_idx, j_idx, e_slc, k_slc, j_slc, l_slc, o_nil, o_one, k_o, e_call, k_call, e_bif, k_bif, e_mth, k_mth, j_mth, e_isi, k_isi, e_lc, k_lc, j_lc, k_lce, k_lca_t, k_lca_f, k_lcb, ts_nil, ts_one, k_tb, e_dg, k_dg, e_dn, el_nil, el_cons, k_el, j_el, er_nil, er_cons, k_er, j_er, i_r1, k_r1, i_r2, k_r2, j_r2, i_en, k_enl, k_ent, i_zp, k_zp, j_zp, l_zp_ll, l_zp_tt, l_zp_tl, l_zp_lt, i_it, k_it, j_it, s_nil, s_seq, k_sqn, k_sqr, k_sqb, k_nx, s_asn, s_aso, ea, k_ea_f, k_ea_t, k_as, s_ast, k_ag, s_par, k_pa, j_pa, l_pa, s_aug, k_au, j_aua, j_aus, s_app, k_ap, j_ap, s_sit, k_si, j_si, l_si, s_a2, k_a2, j_a2, l_a2, s_dp, k_dp, j_dp, s_exp, k_ex, s_iff, k_ift, k_iff, s_for, k_fo, k_foe, s_whl, s_ret, k_re, s_retN, s_brk, s_pass, getS_zero, getS_succ, isOwn, putS, dats, c_lt, c_le, c_gt, c_ge, c_is_none, c_is_int, c_is_str, c_is_tup, c_is_lst, c_is_bool, c_isnot_none, c_isnot_int, c_isnot_str, c_isnot_tup, c_isnot_lst, c_isnot_bool, c_in_sgn, c_eq, c_ne, eqOk_str, eqOk_sh, b_add, b_sub, b_mul, b_mod, b_div, b_addl, b_addt, b_rep, l_lst, l_tup, l_str, i_int, x_lst, x_tup, x_str, m_min, it_l, it_t, it_s, t_lst, q_lst, q_tup, bif_len, bif_int, bif_min, bif_max, bif_sum, bif_sorted, bif_all, bif_any, bif_tuple, bif_list, bif_divmod, mth_count, mth_index, mth_join, List.length_cons, List.length_nil, if_true, if_false, Bool.false_eq_true, Bool.or_false, Bool.false_or, Bool.or_self, List.set_cons_zero, List.set_cons_succ, List.map_cons, List.map_nil, frzS, bG_tp, bG_nm, bGs_nil, bGs_cons, ob_some, gd_t, ob_t, at20, at21, eq_self, and_self, and_true, true_and, decide_true, decide_false, Bool.not_true, Bool.not_false, isi_none_int, isi_none_bool, isi_none_str, isi_none_tuple, isi_none_list, isi_bool_int, isi_bool_bool, isi_bool_str, isi_bool_tuple, isi_bool_list, isi_int_int, isi_int_bool, isi_int_str, isi_int_tuple, isi_int_list, isi_str_int, isi_str_bool, isi_str_str, isi_str_tuple, isi_str_list, isi_tuple_int, isi_tuple_bool, isi_tuple_str, isi_tuple_tuple, isi_tuple_list, isi_list_int, isi_list_bool, isi_list_str, isi_list_tuple, isi_list_list, Option.map_some, bif_repr, getS_set, getS_frz, length_frz, List.length_set, List.length_map, line, Nat.reduceAdd, Nat.reduceLT, Nat.reduceLeDiff, Nat.reduceEqDiff, Nat.zero_le, Nat.zero_lt_succ, Int.reduceAdd, Int.reduceSub, Int.reduceLT, Int.reduceLE, Int.reduceToNat, Int.reduceNeg, fit_lit, fit62_lit, Bool.and_self, Bool.and_true, Bool.true_and, Bool.not_eq_true, wipe_len, wipe_nil, getS_wipe, hL]
        exact ⟨_, rfl, _, _, rfl, by simp only [e_var, k_val, k_own, e_glb, k_glb, k_cb, e_int, e_str, e_bl, e_non, e_bin, k_bin, j_bin, e_neg, k_neg, e_nt, k_nt, e_and, e_or, and1, and2, and_t, and_f, or1, or2, or_f, or_t, e_cmp, k_cmp, j_cmp, e_chn, k_chn, j_chn, l_chn, l_chf, e_ite, ite_t, ite_f, e_tup, k_tup, j_tup, e_lst, k_lst, j_lst, e_idx, k_idx, j_idx, e_slc, k_slc, j_slc, l_slc, o_nil, o_one, k_o, e_call, k_call, e_bif, k_bif, e_mth, k_mth, j_mth, e_isi, k_isi, e_lc, k_lc, j_lc, k_lce, k_lca_t, k_lca_f, k_lcb, ts_nil, ts_one, k_tb, e_dg, k_dg, e_dn, el_nil, el_cons, k_el, j_el, er_nil, er_cons, k_er, j_er, i_r1, k_r1, i_r2, k_r2, j_r2, i_en, k_enl, k_ent, i_zp, k_zp, j_zp, l_zp_ll, l_zp_tt, l_zp_tl, l_zp_lt, i_it, k_it, j_it, s_nil, s_seq, k_sqn, k_sqr, k_sqb, k_nx, s_asn, s_aso, ea, k_ea_f, k_ea_t, k_as, s_ast, k_ag, s_par, k_pa, j_pa, l_pa, s_aug, k_au, j_aua, j_aus, s_app, k_ap, j_ap, s_sit, k_si, j_si, l_si, s_a2, k_a2, j_a2, l_a2, s_dp, k_dp, j_dp, s_exp, k_ex, s_iff, k_ift, k_iff, s_for, k_fo, k_foe, s_whl, s_ret, k_re, s_retN, s_brk, s_pass, getS_zero, getS_succ, isOwn, putS, dats, c_lt, c_le, c_gt, c_ge, c_is_none, c_is_int, c_is_str, c_is_tup, c_is_lst, c_is_bool, c_isnot_none, c_isnot_int, c_isnot_str, c_isnot_tup, c_isnot_lst, c_isnot_bool, c_in_sgn, c_eq, c_ne, eqOk_str, eqOk_sh, b_add, b_sub, b_mul, b_mod, b_div, b_addl, b_addt, b_rep, l_lst, l_tup, l_str, i_int, x_lst, x_tup, x_str, m_min, it_l, it_t, it_s, t_lst, q_lst, q_tup, bif_len, bif_int, bif_min, bif_max, bif_sum, bif_sorted, bif_all, bif_any, bif_tuple, bif_list, bif_divmod, mth_count, mth_index, mth_join, List.length_cons, List.length_nil, if_true, if_false, Bool.false_eq_true, Bool.or_false, Bool.false_or, Bool.or_self, List.set_cons_zero, List.set_cons_succ, List.map_cons, List.map_nil, frzS, bG_tp, bG_nm, bGs_nil, bGs_cons, ob_some, gd_t, ob_t, at20, at21, eq_self, and_self, and_true, true_and, decide_true, decide_false, Bool.not_true, Bool.not_false, isi_none_int, isi_none_bool, isi_none_str, isi_none_tuple, isi_none_list, isi_bool_int, isi_bool_bool, isi_bool_str, isi_bool_tuple, isi_bool_list, isi_int_int, isi_int_bool, isi_int_str, isi_int_tuple, isi_int_list, isi_str_int, isi_str_bool, isi_str_str, isi_str_tuple, isi_str_list, isi_tuple_int, isi_tuple_bool, isi_tuple_str, isi_tuple_tuple, isi_tuple_list, isi_list_int, isi_list_bool, isi_list_str, isi_list_tuple, isi_list_list, Option.map_some, bif_repr, getS_set, getS_frz, length_frz, List.length_set, List.length_map, line, Nat.reduceAdd, Nat.reduceLT, Nat.reduceLeDiff, Nat.reduceEqDiff, Nat.zero_le, Nat.zero_lt_succ, Int.reduceAdd, Int.reduceSub, Int.reduceLT, Int.reduceLE, Int.reduceToNat, Int.reduceNeg, fit_lit, fit62_lit, Bool.and_self, Bool.and_true, Bool.true_and, Bool.not_eq_true, wipe_len, wipe_nil, getS_wipe, hL], hM3.mono (by omega), by simp only [e_var, k_val, k_own, e_glb, k_glb, k_cb, e_int, e_str, e_bl, e_non, e_bin, k_bin, j_bin, e_neg, k_neg, e_nt, k_nt, e_and, e_or, and1, and2, and_t, and_f, or1, or2, or_f, or_t, e_cmp, k_cmp, j_cmp, e_chn, k_chn, j_chn, l_chn, l_chf, e_ite, ite_t, ite_f, e_tup, k_tup, j_tup, e_lst, k_lst, j_lst, e_idx, k_idx, j_idx, e_slc, k_slc, j_slc, l_slc, o_nil, o_one, k_o, e_call, k_call, e_bif, k_bif, e_mth, k_mth, j_mth, e_isi, k_isi, e_lc, k_lc, j_lc, k_lce, k_lca_t, k_lca_f, k_lcb, ts_nil, ts_one, k_tb, e_dg, k_dg, e_dn, el_nil, el_cons, k_el, j_el, er_nil, er_cons, k_er, j_er, i_r1, k_r1, i_r2, k_r2, j_r2, i_en, k_enl, k_ent, i_zp, k_zp, j_zp, l_zp_ll, l_zp_tt, l_zp_tl, l_zp_lt, i_it, k_it, j_it, s_nil, s_seq, k_sqn, k_sqr, k_sqb, k_nx, s_asn, s_aso, ea, k_ea_f, k_ea_t, k_as, s_ast, k_ag, s_par, k_pa, j_pa, l_pa, s_aug, k_au, j_aua, j_aus, s_app, k_ap, j_ap, s_sit, k_si, j_si, l_si, s_a2, k_a2, j_a2, l_a2, s_dp, k_dp, j_dp, s_exp, k_ex, s_iff, k_ift, k_iff, s_for, k_fo, k_foe, s_whl, s_ret, k_re, s_retN, s_brk, s_pass, getS_zero, getS_succ, isOwn, putS, dats, c_lt, c_le, c_gt, c_ge, c_is_none, c_is_int, c_is_str, c_is_tup, c_is_lst, c_is_bool, c_isnot_none, c_isnot_int, c_isnot_str, c_isnot_tup, c_isnot_lst, c_isnot_bool, c_in_sgn, c_eq, c_ne, eqOk_str, eqOk_sh, b_add, b_sub, b_mul, b_mod, b_div, b_addl, b_addt, b_rep, l_lst, l_tup, l_str, i_int, x_lst, x_tup, x_str, m_min, it_l, it_t, it_s, t_lst, q_lst, q_tup, bif_len, bif_int, bif_min, bif_max, bif_sum, bif_sorted, bif_all, bif_any, bif_tuple, bif_list, bif_divmod, mth_count, mth_index, mth_join, List.length_cons, List.length_nil, if_true, if_false, Bool.false_eq_true, Bool.or_false, Bool.false_or, Bool.or_self, List.set_cons_zero, List.set_cons_succ, List.map_cons, List.map_nil, frzS, bG_tp, bG_nm, bGs_nil, bGs_cons, ob_some, gd_t, ob_t, at20, at21, eq_self, and_self, and_true, true_and, decide_true, decide_false, Bool.not_true, Bool.not_false, isi_none_int, isi_none_bool, isi_none_str, isi_none_tuple, isi_none_list, isi_bool_int, isi_bool_bool, isi_bool_str, isi_bool_tuple, isi_bool_list, isi_int_int, isi_int_bool, isi_int_str, isi_int_tuple, isi_int_list, isi_str_int, isi_str_bool, isi_str_str, isi_str_tuple, isi_str_list, isi_tuple_int, isi_tuple_bool, isi_tuple_str, isi_tuple_tuple, isi_tuple_list, isi_list_int, isi_list_bool, isi_list_str, isi_list_tuple, isi_list_list, Option.map_some, bif_repr, getS_set, getS_frz, length_frz, List.length_set, List.length_map, line, Nat.reduceAdd, Nat.reduceLT, Nat.reduceLeDiff, Nat.reduceEqDiff, Nat.zero_le, Nat.zero_lt_succ, Int.reduceAdd, Int.reduceSub, Int.reduceLT, Int.reduceLE, Int.reduceToNat, Int.reduceNeg, fit_lit, fit62_lit, Bool.and_self, Bool.and_true, Bool.true_and, Bool.not_eq_true, wipe_len, wipe_nil, getS_wipe, h0], by simp only [e_var, k_val, k_own, e_glb, k_glb, k_cb, e_int, e_str, e_bl, e_non, e_bin, k_bin, j_bin, e_neg, k_neg, e_nt, k_nt, e_and, e_or, and1, and2, and_t, and_f, or1, or2, or_f, or_t, e_cmp, k_cmp, j_cmp, e_chn, k_chn, j_chn, l_chn, l_chf, e_ite, ite_t, ite_f, e_tup, k_tup, j_tup, e_lst, k_lst, j_lst, e_idx, k_idx, j_idx, e_slc, k_slc, j_slc, l_slc, o_nil, o_one, k_o, e_call, k_call, e_bif, k_bif, e_mth, k_mth, j_mth, e_isi, k_isi, e_lc, k_lc, j_lc, k_lce, k_lca_t, k_lca_f, k_lcb, ts_nil, ts_one, k_tb, e_dg, k_dg, e_dn, el_nil, el_cons, k_el, j_el, er_nil, er_cons, k_er, j_er, i_r1, k_r1, i_r2, k_r2, j_r2, i_en, k_enl, k_ent, i_zp, k_zp, j_zp, l_zp_ll, l_zp_tt, l_zp_tl, l_zp_lt, i_it, k_it, j_it, s_nil, s_seq, k_sqn, k_sqr, k_sqb, k_nx, s_asn, s_aso, ea, k_ea_f, k_ea_t, k_as, s_ast, k_ag, s_par, k_pa, j_pa, l_pa, s_aug, k_au, j_aua, j_aus, s_app, k_ap, j_ap, s_sit, k_si, j_si, l_si, s_a2, k_a2, j_a2, l_a2, s_dp, k_dp, j_dp, s_exp, k_ex, s_iff, k_ift, k_iff, s_for, k_fo, k_foe, s_whl, s_ret, k_re, s_retN, s_brk, s_pass, getS_zero, getS_succ, isOwn, putS, dats, c_lt, c_le, c_gt, c_ge, c_is_none, c_is_int, c_is_str, c_is_tup, c_is_lst, c_is_bool, c_isnot_none, c_isnot_int, c_isnot_str, c_isnot_tup, c_isnot_lst, c_isnot_bool, c_in_sgn, c_eq, c_ne, eqOk_str, eqOk_sh, b_add, b_sub, b_mul, b_mod, b_div, b_addl, b_addt, b_rep, l_lst, l_tup, l_str, i_int, x_lst, x_tup, x_str, m_min, it_l, it_t, it_s, t_lst, q_lst, q_tup, bif_len, bif_int, bif_min, bif_max, bif_sum, bif_sorted, bif_all, bif_any, bif_tuple, bif_list, bif_divmod, mth_count, mth_index, mth_join, List.length_cons, List.length_nil, if_true, if_false, Bool.false_eq_true, Bool.or_false, Bool.false_or, Bool.or_self, List.set_cons_zero, List.set_cons_succ, List.map_cons, List.map_nil, frzS, bG_tp, bG_nm, bGs_nil, bGs_cons, ob_some, gd_t, ob_t, at20, at21, eq_self, and_self, and_true, true_and, decide_true, decide_false, Bool.not_true, Bool.not_false, isi_none_int, isi_none_bool, isi_none_str, isi_none_tuple, isi_none_list, isi_bool_int, isi_bool_bool, isi_bool_str, isi_bool_tuple, isi_bool_list, isi_int_int, isi_int_bool, isi_int_str, isi_int_tuple, isi_int_list, isi_str_int, isi_str_bool, isi_str_str, isi_str_tuple, isi_str_list, isi_tuple_int, isi_tuple_bool, isi_tuple_str, isi_tuple_tuple, isi_tuple_list, isi_list_int, isi_list_bool, isi_list_str, isi_list_tuple, isi_list_list, Option.map_some, bif_repr, getS_set, getS_frz, length_frz, List.length_set, List.length_map, line, Nat.reduceAdd, Nat.reduceLT, Nat.reduceLeDiff, Nat.reduceEqDiff, Nat.zero_le, Nat.zero_lt_succ, Int.reduceAdd, Int.reduceSub, Int.reduceLT, Int.reduceLE, Int.reduceToNat, Int.reduceNeg, fit_lit, fit62_lit, Bool.and_self, Bool.and_true, Bool.true_and, Bool.not_eq_true, wipe_len, wipe_nil, getS_wipe, h1], by simp only [e_var, k_val, k_own, e_glb, k_glb, k_cb, e_int, e_str, e_bl, e_non, e_bin, k_bin, j_bin, e_neg, k_neg, e_nt, k_nt, e_and, e_or, and1, and2, and_t, and_f, or1, or2, or_f, or_t, e_cmp, k_cmp, j_cmp, e_chn, k_chn, j_chn, l_chn, l_chf, e_ite, ite_t, ite_f, e_tup, k_tup, j_tup, e_lst, k_lst, j_lst, e_idx, k_idx, j_idx, e_slc, k_slc, j_slc, l_slc, o_nil, o_one, k_o, e_call, k_call, e_bif, k_bif, e_mth, k_mth, j_mth, e_isi, k_isi, e_lc, k_lc, j_lc, k_lce, k_lca_t, k_lca_f, k_lcb, ts_nil, ts_one, k_tb, e_dg, k_dg, e_dn, el_nil, el_cons, k_el, j_el, er_nil, er_cons, k_er, j_er, i_r1, k_r1, i_r2, k_r2, j_r2, i_en, k_enl, k_ent, i_zp, k_zp, j_zp, l_zp_ll, l_zp_tt, l_zp_tl, l_zp_lt, i_it, k_it, j_it, s_nil, s_seq, k_sqn, k_sqr, k_sqb, k_nx, s_asn, s_aso, ea, k_ea_f, k_ea_t, k_as, s_ast, k_ag, s_par, k_pa, j_pa, l_pa, s_aug, k_au, j_aua, j_aus, s_app, k_ap, j_ap, s_sit, k_si, j_si, l_si, s_a2, k_a2, j_a2, l_a2, s_dp, k_dp, j_dp, s_exp, k_ex, s_iff, k_ift, k_iff, s_for, k_fo, k_foe, s_whl, s_ret, k_re, s_retN, s_brk, s_pass, getS_zero, getS_succ, isOwn, putS, dats, c_lt, c_le, c_gt, c_ge, c_is_none, c_is_int, c_is_str, c_is_tup, c_is_lst, c_is_bool, c_isnot_none, c_isnot_int, c_isnot_str, c_isnot_tup, c_isnot_lst, c_isnot_bool, c_in_sgn, c_eq, c_ne, eqOk_str, eqOk_sh, b_add, b_sub, b_mul, b_mod, b_div, b_addl, b_addt, b_rep, l_lst, l_tup, l_str, i_int, x_lst, x_tup, x_str, m_min, it_l, it_t, it_s, t_lst, q_lst, q_tup, bif_len, bif_int, bif_min, bif_max, bif_sum, bif_sorted, bif_all, bif_any, bif_tuple, bif_list, bif_divmod, mth_count, mth_index, mth_join, List.length_cons, List.length_nil, if_true, if_false, Bool.false_eq_true, Bool.or_false, Bool.false_or, Bool.or_self, List.set_cons_zero, List.set_cons_succ, List.map_cons, List.map_nil, frzS, bG_tp, bG_nm, bGs_nil, bGs_cons, ob_some, gd_t, ob_t, at20, at21, eq_self, and_self, and_true, true_and, decide_true, decide_false, Bool.not_true, Bool.not_false, isi_none_int, isi_none_bool, isi_none_str, isi_none_tuple, isi_none_list, isi_bool_int, isi_bool_bool, isi_bool_str, isi_bool_tuple, isi_bool_list, isi_int_int, isi_int_bool, isi_int_str, isi_int_tuple, isi_int_list, isi_str_int, isi_str_bool, isi_str_str, isi_str_tuple, isi_str_list, isi_tuple_int, isi_tuple_bool, isi_tuple_str, isi_tuple_tuple, isi_tuple_list, isi_list_int, isi_list_bool, isi_list_str, isi_list_tuple, isi_list_list, Option.map_some, bif_repr, getS_set, getS_frz, length_frz, List.length_set, List.length_map, line, Nat.reduceAdd, Nat.reduceLT, Nat.reduceLeDiff, Nat.reduceEqDiff, Nat.zero_le, Nat.zero_lt_succ, Int.reduceAdd, Int.reduceSub, Int.reduceLT, Int.reduceLE, Int.reduceToNat, Int.reduceNeg, fit_lit, fit62_lit, Bool.and_self, Bool.and_true, Bool.true_and, Bool.not_eq_true, wipe_len, wipe_nil, getS_wipe, h2], by simp only [e_var, k_val, k_own, e_glb, k_glb, k_cb, e_int, e_str, e_bl, e_non, e_bin, k_bin, j_bin, e_neg, k_neg, e_nt, k_nt, e_and, e_or, and1, and2, and_t, and_f, or1, or2, or_f, or_t, e_cmp, k_cmp, j_cmp, e_chn, k_chn, j_chn, l_chn, l_chf, e_ite, ite_t, ite_f, e_tup, k_tup, j_tup, e_lst, k_lst, j_lst, e_idx, k_idx, j_idx, e_slc, k_slc, j_slc, l_slc, o_nil, o_one, k_o, e_call, k_call, e_bif, k_bif, e_mth, k_mth, j_mth, e_isi, k_isi, e_lc, k_lc, j_lc, k_lce, k_lca_t, k_lca_f, k_lcb, ts_nil, ts_one, k_tb, e_dg, k_dg, e_dn, el_nil, el_cons, k_el, j_el, er_nil, er_cons, k_er, j_er, i_r1, k_r1, i_r2, k_r2, j_r2, i_en, k_enl, k_ent, i_zp, k_zp, j_zp, l_zp_ll, l_zp_tt, l_zp_tl, l_zp_lt, i_it, k_it, j_it, s_nil, s_seq, k_sqn, k_sqr, k_sqb, k_nx, s_asn, s_aso, ea, k_ea_f, k_ea_t, k_as, s_ast, k_ag, s_par, k_pa, j_pa, l_pa, s_aug, k_au, j_aua, j_aus, s_app, k_ap, j_ap, s_sit, k_si, j_si, l_si, s_a2, k_a2, j_a2, l_a2, s_dp, k_dp, j_dp, s_exp, k_ex, s_iff, k_ift, k_iff, s_for, k_fo, k_foe, s_whl, s_ret, k_re, s_retN, s_brk, s_pass, getS_zero, getS_succ, isOwn, putS, dats, c_lt, c_le, c_gt, c_ge, c_is_none, c_is_int, c_is_str, c_is_tup, c_is_lst, c_is_bool, c_isnot_none, c_isnot_int, c_isnot_str, c_isnot_tup, c_isnot_lst, c_isnot_bool, c_in_sgn, c_eq, c_ne, eqOk_str, eqOk_sh, b_add, b_sub, b_mul, b_mod, b_div, b_addl, b_addt, b_rep, l_lst, l_tup, l_str, i_int, x_lst, x_tup, x_str, m_min, it_l, it_t, it_s, t_lst, q_lst, q_tup, bif_len, bif_int, bif_min, bif_max, bif_sum, bif_sorted, bif_all, bif_any, bif_tuple, bif_list, bif_divmod, mth_count, mth_index, mth_join, List.length_cons, List.length_nil, if_true, if_false, Bool.false_eq_true, Bool.or_false, Bool.false_or, Bool.or_self, List.set_cons_zero, List.set_cons_succ, List.map_cons, List.map_nil, frzS, bG_tp, bG_nm, bGs_nil, bGs_cons, ob_some, gd_t, ob_t, at20, at21, eq_self, and_self, and_true, true_and, decide_true, decide_false, Bool.not_true, Bool.not_false, isi_none_int, isi_none_bool, isi_none_str, isi_none_tuple, isi_none_list, isi_bool_int, isi_bool_bool, isi_bool_str, isi_bool_tuple, isi_bool_list, isi_int_int, isi_int_bool, isi_int_str, isi_int_tuple, isi_int_list, isi_str_int, isi_str_bool, isi_str_str, isi_str_tuple, isi_str_list, isi_tuple_int, isi_tuple_bool, isi_tuple_str, isi_tuple_tuple, isi_tuple_list, isi_list_int, isi_list_bool, isi_list_str, isi_list_tuple, isi_list_list, Option.map_some, bif_repr, getS_set, getS_frz, length_frz, List.length_set, List.length_map, line, Nat.reduceAdd, Nat.reduceLT, Nat.reduceLeDiff, Nat.reduceEqDiff, Nat.zero_le, Nat.zero_lt_succ, Int.reduceAdd, Int.reduceSub, Int.reduceLT, Int.reduceLE, Int.reduceToNat, Int.reduceNeg, fit_lit, fit62_lit, Bool.and_self, Bool.and_true, Bool.true_and, Bool.not_eq_true, wipe_len, wipe_nil, getS_wipe, h3], by simp only [e_var, k_val, k_own, e_glb, k_glb, k_cb, e_int, e_str, e_bl, e_non, e_bin, k_bin, j_bin, e_neg, k_neg, e_nt, k_nt, e_and, e_or, and1, and2, and_t, and_f, or1, or2, or_f, or_t, e_cmp, k_cmp, j_cmp, e_chn, k_chn, j_chn, l_chn, l_chf, e_ite, ite_t, ite_f, e_tup, k_tup, j_tup, e_lst, k_lst, j_lst, e_idx, k_idx, j_idx, e_slc, k_slc, j_slc, l_slc, o_nil, o_one, k_o, e_call, k_call, e_bif, k_bif, e_mth, k_mth, j_mth, e_isi, k_isi, e_lc, k_lc, j_lc, k_lce, k_lca_t, k_lca_f, k_lcb, ts_nil, ts_one, k_tb, e_dg, k_dg, e_dn, el_nil, el_cons, k_el, j_el, er_nil, er_cons, k_er, j_er, i_r1, k_r1, i_r2, k_r2, j_r2, i_en, k_enl, k_ent, i_zp, k_zp, j_zp, l_zp_ll, l_zp_tt, l_zp_tl, l_zp_lt, i_it, k_it, j_it, s_nil, s_seq, k_sqn, k_sqr, k_sqb, k_nx, s_asn, s_aso, ea, k_ea_f, k_ea_t, k_as, s_ast, k_ag, s_par, k_pa, j_pa, l_pa, s_aug, k_au, j_aua, j_aus, s_app, k_ap, j_ap, s_sit, k_si, j_si, l_si, s_a2, k_a2, j_a2, l_a2, s_dp, k_dp, j_dp, s_exp, k_ex, s_iff, k_ift, k_iff, s_for, k_fo, k_foe, s_whl, s_ret, k_re, s_retN, s_brk, s_pass, getS_zero, getS_succ, isOwn, putS, dats, c_lt, c_le, c_gt, c_ge, c_is_none, c_is_int, c_is_str, c_is_tup, c_is_lst, c_is_bool, c_isnot_none, c_isnot_int, c_isnot_str, c_isnot_tup, c_isnot_lst, c_isnot_bool, c_in_sgn, c_eq, c_ne, eqOk_str, eqOk_sh, b_add, b_sub, b_mul, b_mod, b_div, b_addl, b_addt, b_rep, l_lst, l_tup, l_str, i_int, x_lst, x_tup, x_str, m_min, it_l, it_t, it_s, t_lst, q_lst, q_tup, bif_len, bif_int, bif_min, bif_max, bif_sum, bif_sorted, bif_all, bif_any, bif_tuple, bif_list, bif_divmod, mth_count, mth_index, mth_join, List.length_cons, List.length_nil, if_true, if_false, Bool.false_eq_true, Bool.or_false, Bool.false_or, Bool.or_self, List.set_cons_zero, List.set_cons_succ, List.map_cons, List.map_nil, frzS, bG_tp, bG_nm, bGs_nil, bGs_cons, ob_some, gd_t, ob_t, at20, at21, eq_self, and_self, and_true, true_and, decide_true, decide_false, Bool.not_true, Bool.not_false, isi_none_int, isi_none_bool, isi_none_str, isi_none_tuple, isi_none_list, isi_bool_int, isi_bool_bool, isi_bool_str, isi_bool_tuple, isi_bool_list, isi_int_int, isi_int_bool, isi_int_str, isi_int_tuple, isi_int_list, isi_str_int, isi_str_bool, isi_str_str, isi_str_tuple, isi_str_list, isi_tuple_int, isi_tuple_bool, isi_tuple_str, isi_tuple_tuple, isi_tuple_list, isi_list_int, isi_list_bool, isi_list_str, isi_list_tuple, isi_list_list, Option.map_some, bif_repr, getS_set, getS_frz, length_frz, List.length_set, List.length_map, line, Nat.reduceAdd, Nat.reduceLT, Nat.reduceLeDiff, Nat.reduceEqDiff, Nat.zero_le, Nat.zero_lt_succ, Int.reduceAdd, Int.reduceSub, Int.reduceLT, Int.reduceLE, Int.reduceToNat, Int.reduceNeg, fit_lit, fit62_lit, Bool.and_self, Bool.and_true, Bool.true_and, Bool.not_eq_true, wipe_len, wipe_nil, getS_wipe, h8]⟩
      · obtain ⟨hL, hM, h0, h1, h2, h3, h8⟩ := hI
        simp only [e_var, k_val, k_own, e_glb, k_glb, k_cb, e_int, e_str, e_bl, e_non, e_bin, k_bin, j_bin, e_neg, k_neg, e_nt, k_nt, e_and, e_or, and1, and2, and_t, and_f, or1, or2, or_f, or_t, e_cmp, k_cmp, j_cmp, e_chn, k_chn, j_chn, l_chn, l_chf, e_ite, ite_t, ite_f, e_tup, k_tup, j_tup, e_lst, k_lst, j_lst, e_idx, k_idx, j_idx, e_slc, k_slc, j_slc, l_slc, o_nil, o_one, k_o, e_call, k_call, e_bif, k_bif, e_mth, k_mth, j_mth, e_isi, k_isi, e_lc, k_lc, j_lc, k_lce, k_lca_t, k_lca_f, k_lcb, ts_nil, ts_one, k_tb, e_dg, k_dg, e_dn, el_nil, el_cons, k_el, j_el, er_nil, er_cons, k_er, j_er, i_r1, k_r1, i_r2, k_r2, j_r2, i_en, k_enl, k_ent, i_zp, k_zp, j_zp, l_zp_ll, l_zp_tt, l_zp_tl, l_zp_lt, i_it, k_it, j_it, s_nil, s_seq, k_sqn, k_sqr, k_sqb, k_nx, s_asn, s_aso, ea, k_ea_f, k_ea_t, k_as, s_ast, k_ag, s_par, k_pa, j_pa, l_pa, s_aug, k_au, j_aua, j_aus, s_app, k_ap, j_ap, s_sit, k_si, j_si, l_si, s_a2, k_a2, j_a2, l_a2, s_dp, k_dp, j_dp, s_exp, k_ex, s_iff, k_ift, k_iff, s_for, k_fo, k_foe, s_whl, s_ret, k_re, s_retN, s_brk, s_pass, getS_zero, getS_succ, isOwn, putS, dats, c_lt, c_le, c_gt, c_ge, c_is_none, c_is_int, c_is_str, c_is_tup, c_is_lst, c_is_bool, c_isnot_none, c_isnot_int, c_isnot_str, c_isnot_tup, c_isnot_lst, c_isnot_bool, c_in_sgn, c_eq, c_ne, eqOk_str, eqOk_sh, b_add, b_sub, b_mul, b_mod, b_div, b_addl, b_addt, b_rep, l_lst, l_tup, l_str, i_int, x_lst, x_tup, x_str, m_min, it_l, it_t, it_s, t_lst, q_lst, q_tup, bif_len, bif_int, bif_min, bif_max, bif_sum, bif_sorted, bif_all, bif_any, bif_tuple, bif_list, bif_divmod, mth_count, mth_index, mth_join, List.length_cons, List.length_nil, if_true, if_false, Bool.false_eq_true, Bool.or_false, Bool.false_or, Bool.or_self, List.set_cons_zero, List.set_cons_succ, List.map_cons, List.map_nil, frzS, bG_tp, bG_nm, bGs_nil, bGs_cons, ob_some, gd_t, ob_t, at20, at21, eq_self, and_self, and_true, true_and, decide_true, decide_false, Bool.not_true, Bool.not_false, isi_none_int, isi_none_bool, isi_none_str, isi_none_tuple, isi_none_list, isi_bool_int, isi_bool_bool, isi_bool_str, isi_bool_tuple, isi_bool_list, isi_int_int, isi_int_bool, isi_int_str, isi_int_tuple, isi_int_list, isi_str_int, isi_str_bool, isi_str_str, isi_str_tuple, isi_str_list, isi_tuple_int, isi_tuple_bool, isi_tuple_str, isi_tuple_tuple, isi_tuple_list, isi_list_int, isi_list_bool, isi_list_str, isi_list_tuple, isi_list_list, Option.map_some, bif_repr, getS_set, getS_frz, length_frz, List.length_set, List.length_map, line, Nat.reduceAdd, Nat.reduceLT, Nat.reduceLeDiff, Nat.reduceEqDiff, Nat.zero_le, Nat.zero_lt_succ, Int.reduceAdd, Int.reduceSub, Int.reduceLT, Int.reduceLE, Int.reduceToNat, Int.reduceNeg, fit_lit, fit62_lit, Bool.and_self, Bool.and_true, Bool.true_and, Bool.not_eq_true, wipe_len, wipe_nil, getS_wipe]
        exact ⟨_, rfl, _, rfl, hM.mono (by rw [upto_map]; simp)⟩
  obtain ⟨o, e, st', rfl, hM'⟩ := key
  exact ⟨st', run_def (fn := fn__law_right) rfl rfl (by decide) e, hM'⟩
end
end Rm

set_option Elab.async false
set_option linter.all false
set_option maxRecDepth 100000
set_option maxHeartbeats 4000000
/-! Rv, mathematics: law k03, the whole. -/
namespace Rm
open Rv
open PySem
section
variable {wf n : Nat} {st : Sto}
theorem ni_enc {m : Nat} {f : Fig} (hm : m ≤ 10) (h : FigOk m f) : Ni 0 401 (.str (enc f)) := Ni.str (fun c hc => by
  rw [txt_enc] at hc
  obtain ⟨d, hd, rfl⟩ := List.mem_map.mp hc
  have := h.2.2 d hd
  omega) (by rw [enc_len]; exact h.2.1)
theorem ni_deal {ps : List Str} {rs : Rs} {l : Fig} (hp : People ps) (h : DealOk ps rs l) (hr : rs.length ≤ 20) : Ni 3 60000 (dealD ps (full rs l)) := by
  have h6 := hp.len.2
  have hm := h.le
  have n1 : Ni 2 20000 (psD ps) := (Ni.tuple (n := 6) (fun x hx => by
    obtain ⟨s, hs, rfl⟩ := List.mem_map.mp hx
    obtain ⟨j, hj, rfl⟩ := List.getElem_of_mem hs
    have := hp.nice j hj
    rw [nm, List.getD_eq_getElem?_getD, List.getElem?_eq_getElem hj] at this
    exact this) (by simpa using h6)).mono (by decide) (by decide)
  have n2 : Ni 2 18000 (rsD (full rs l)) := (Ni.tuple (n := 21) (D := 1) (B := 805) (fun x hx => by
    obtain ⟨r, hr, rfl⟩ := List.mem_map.mp hx
    have hf : FigOk ps.length r.2 ∧ ∀ k, r.1 = some k → 1 ≤ k ∧ k ≤ 10 ^ 12 := by
      rcases List.mem_append.mp hr with hr | hr
      · obtain ⟨q, hq, rfl⟩ := List.mem_map.mp hr
        obtain ⟨f, g1, g2⟩ := h.each q hq
        exact ⟨f, fun k hk => by cases hk; exact ⟨g1, g2⟩⟩
      · rw [List.mem_singleton.mp hr]
        exact ⟨h.last, fun k hk => by cases hk⟩
    obtain ⟨o, f⟩ := r
    have ne := ni_enc hm hf.1
    cases o with
    | none => exact Ni.pair (Ni.none.mono (Nat.le_refl _) (by decide)) ne
    | some k =>
      have := hf.2 k rfl
      exact Ni.pair ((Ni.int (by omega)).mono (Nat.le_refl _) (by decide)) ne) (by simp only [List.length_map, full_len]; omega)).mono (Nat.le_refl _) (by decide)
  exact (Ni.pair n1 (n2.mono (Nat.le_refl _) (by decide))).mono (by decide) (by decide)
theorem eqOk_p2 (i j k l : Int) : eqOk (.tuple [.int i, .int j]) (.tuple [.int k, .int l]) = true := eqOk_sh (shaped_tup [i, j]) (shaped_tup [k, l])
theorem eqv_p2 (i j k l : Int) : PyData.eqv (.tuple [.int i, .int j]) (.tuple [.int k, .int l]) = decide ([i, j] = [k, l]) := eqv_tup [i, j] [k, l]
theorem one_eq : PyData.tuple [.tuple [.str "a", .str "b"], .tuple [.tuple [.int 3, .str "0"], .tuple [.int 4, .str "01"], .tuple [.none, .str "110"]]] = dealD ["a", "b"] (full [(3, [0]), (4, [0, 1])] [1, 1, 0]) := rfl
abbrev oneD : PyData := .tuple [.tuple [.str "a", .str "b"], .tuple [.tuple [.int 3, .str "0"], .tuple [.int 4, .str "01"], .tuple [.none, .str "110"]]]
abbrev oneR : PyData := .tuple [.str "a", .str "a", .str "a", .str "a", .str "b", .str "a", .str "b", .str "b", .str "b", .str "a", .str "b", .str "b", .str "a"]
theorem end1 : runF tbl glb wf (n + 5) "row_part" [.dat oneD, .dat (.int 0), .dat (.int 13)] st = .ok (.dat oneR, st) := rfl
theorem end2 : runF tbl glb wf (n + 5) "has" [.dat oneD, .dat (.int 13)] st = .ok (.dat (.tuple [.int 7, .int 6]), st) := rfl
theorem end3 : runF tbl glb wf (n + 5) "gets" [.dat oneD, .dat (.int 3), .dat (.int 2)] st = .ok (.dat (.tuple [.int 1, .int 1]), st) := rfl
theorem end4 : runF tbl glb wf (n + 5) "gets" [.dat oneD, .dat (.int 7), .dat (.int 3)] st = .ok (.dat (.tuple [.int 1, .int 2]), st) := rfl
theorem end5 : runF tbl glb wf (n + 5) "run_at" [.dat oneD, .dat (.int 7)] st = .ok (.dat (.tuple [.int 2, .int 0]), st) := rfl
theorem end6 : runF tbl glb wf (n + 5) "name_at" [.dat oneD, .dat (.int 6)] st = .ok (.dat (.str "b"), st) := rfl
theorem s_law (ns : List Int) (hn : ns.length ≤ 63) : ∃ st', runF tbl glb wf (n + 6) "law" [.dat (.list (ns.map .int))] [] = .ok (.dat (.bool true), st') := by
  obtain ⟨l, e0⟩ := s_begun (wf := wf) (n := n + 4) ns hn
  have key : Ok (evS (runF tbl glb wf (n + 5)) glb wf ir_law [some (.val (.dat (.list (ns.map .int)))), none, none, none, none, none] []) (fun o => ∃ st', o = .ret (.dat (.bool true)) st') := by
    simp only [e_var, k_val, k_own, e_glb, k_glb, k_cb, e_int, e_str, e_bl, e_non, e_bin, k_bin, j_bin, e_neg, k_neg, e_nt, k_nt, e_and, e_or, and1, and2, and_t, and_f, or1, or2, or_f, or_t, e_cmp, k_cmp, j_cmp, e_chn, k_chn, j_chn, l_chn, l_chf, e_ite, ite_t, ite_f, e_tup, k_tup, j_tup, e_lst, k_lst, j_lst, e_idx, k_idx, j_idx, e_slc, k_slc, j_slc, l_slc, o_nil, o_one, k_o, e_call, k_call, e_bif, k_bif, e_mth, k_mth, j_mth, e_isi, k_isi, e_lc, k_lc, j_lc, k_lce, k_lca_t, k_lca_f, k_lcb, ts_nil, ts_one, k_tb, e_dg, k_dg, e_dn, el_nil, el_cons, k_el, j_el, er_nil, er_cons, k_er, j_er, i_r1, k_r1, i_r2, k_r2, j_r2, i_en, k_enl, k_ent, i_zp, k_zp, j_zp, l_zp_ll, l_zp_tt, l_zp_tl, l_zp_lt, i_it, k_it, j_it, s_nil, s_seq, k_sqn, k_sqr, k_sqb, k_nx, s_asn, s_aso, ea, k_ea_f, k_ea_t, k_as, s_ast, k_ag, s_par, k_pa, j_pa, l_pa, s_aug, k_au, j_aua, j_aus, s_app, k_ap, j_ap, s_sit, k_si, j_si, l_si, s_a2, k_a2, j_a2, l_a2, s_dp, k_dp, j_dp, s_exp, k_ex, s_iff, k_ift, k_iff, s_for, k_fo, k_foe, s_whl, s_ret, k_re, s_retN, s_brk, s_pass, getS_zero, getS_succ, isOwn, putS, dats, c_lt, c_le, c_gt, c_ge, c_is_none, c_is_int, c_is_str, c_is_tup, c_is_lst, c_is_bool, c_isnot_none, c_isnot_int, c_isnot_str, c_isnot_tup, c_isnot_lst, c_isnot_bool, c_in_sgn, c_eq, c_ne, eqOk_str, eqOk_sh, b_add, b_sub, b_mul, b_mod, b_div, b_addl, b_addt, b_rep, l_lst, l_tup, l_str, i_int, x_lst, x_tup, x_str, m_min, it_l, it_t, it_s, t_lst, q_lst, q_tup, bif_len, bif_int, bif_min, bif_max, bif_sum, bif_sorted, bif_all, bif_any, bif_tuple, bif_list, bif_divmod, mth_count, mth_index, mth_join, List.length_cons, List.length_nil, if_true, if_false, Bool.false_eq_true, Bool.or_false, Bool.false_or, Bool.or_self, List.set_cons_zero, List.set_cons_succ, List.map_cons, List.map_nil, frzS, bG_tp, bG_nm, bGs_nil, bGs_cons, ob_some, gd_t, ob_t, at20, at21, eq_self, and_self, and_true, true_and, decide_true, decide_false, Bool.not_true, Bool.not_false, isi_none_int, isi_none_bool, isi_none_str, isi_none_tuple, isi_none_list, isi_bool_int, isi_bool_bool, isi_bool_str, isi_bool_tuple, isi_bool_list, isi_int_int, isi_int_bool, isi_int_str, isi_int_tuple, isi_int_list, isi_str_int, isi_str_bool, isi_str_str, isi_str_tuple, isi_str_list, isi_tuple_int, isi_tuple_bool, isi_tuple_str, isi_tuple_tuple, isi_tuple_list, isi_list_int, isi_list_bool, isi_list_str, isi_list_tuple, isi_list_list, Option.map_some, bif_repr, getS_set, getS_frz, length_frz, List.length_set, List.length_map, line, Nat.reduceAdd, Nat.reduceLT, Nat.reduceLeDiff, Nat.reduceEqDiff, Nat.zero_le, Nat.zero_lt_succ, Int.reduceAdd, Int.reduceSub, Int.reduceLT, Int.reduceLE, Int.reduceToNat, Int.reduceNeg, fit_lit, fit62_lit, Bool.and_self, Bool.and_true, Bool.true_and, Bool.not_eq_true, wipe_len, wipe_nil, getS_wipe, ir_law, e0]
    have hlaps : 0 ≤ (4 + (if (8 : Int) < (ns.length : Int) then 8 else (ns.length : Int))) ∧ (4 + (if (8 : Int) < (ns.length : Int) then 8 else (ns.length : Int))) ≤ 12 := by split <;> omega
    generalize (4 + (if (8 : Int) < (ns.length : Int) then 8 else (ns.length : Int))) = L at hlaps ⊢
    simp (disch := first | assumption | omega) only [e_var, k_val, k_own, e_glb, k_glb, k_cb, e_int, e_str, e_bl, e_non, e_bin, k_bin, j_bin, e_neg, k_neg, e_nt, k_nt, e_and, e_or, and1, and2, and_t, and_f, or1, or2, or_f, or_t, e_cmp, k_cmp, j_cmp, e_chn, k_chn, j_chn, l_chn, l_chf, e_ite, ite_t, ite_f, e_tup, k_tup, j_tup, e_lst, k_lst, j_lst, e_idx, k_idx, j_idx, e_slc, k_slc, j_slc, l_slc, o_nil, o_one, k_o, e_call, k_call, e_bif, k_bif, e_mth, k_mth, j_mth, e_isi, k_isi, e_lc, k_lc, j_lc, k_lce, k_lca_t, k_lca_f, k_lcb, ts_nil, ts_one, k_tb, e_dg, k_dg, e_dn, el_nil, el_cons, k_el, j_el, er_nil, er_cons, k_er, j_er, i_r1, k_r1, i_r2, k_r2, j_r2, i_en, k_enl, k_ent, i_zp, k_zp, j_zp, l_zp_ll, l_zp_tt, l_zp_tl, l_zp_lt, i_it, k_it, j_it, s_nil, s_seq, k_sqn, k_sqr, k_sqb, k_nx, s_asn, s_aso, ea, k_ea_f, k_ea_t, k_as, s_ast, k_ag, s_par, k_pa, j_pa, l_pa, s_aug, k_au, j_aua, j_aus, s_app, k_ap, j_ap, s_sit, k_si, j_si, l_si, s_a2, k_a2, j_a2, l_a2, s_dp, k_dp, j_dp, s_exp, k_ex, s_iff, k_ift, k_iff, s_for, k_fo, k_foe, s_whl, s_ret, k_re, s_retN, s_brk, s_pass, getS_zero, getS_succ, isOwn, putS, dats, c_lt, c_le, c_gt, c_ge, c_is_none, c_is_int, c_is_str, c_is_tup, c_is_lst, c_is_bool, c_isnot_none, c_isnot_int, c_isnot_str, c_isnot_tup, c_isnot_lst, c_isnot_bool, c_in_sgn, c_eq, c_ne, eqOk_str, eqOk_sh, b_add, b_sub, b_mul, b_mod, b_div, b_addl, b_addt, b_rep, l_lst, l_tup, l_str, i_int, x_lst, x_tup, x_str, m_min, it_l, it_t, it_s, t_lst, q_lst, q_tup, bif_len, bif_int, bif_min, bif_max, bif_sum, bif_sorted, bif_all, bif_any, bif_tuple, bif_list, bif_divmod, mth_count, mth_index, mth_join, List.length_cons, List.length_nil, if_true, if_false, Bool.false_eq_true, Bool.or_false, Bool.false_or, Bool.or_self, List.set_cons_zero, List.set_cons_succ, List.map_cons, List.map_nil, frzS, bG_tp, bG_nm, bGs_nil, bGs_cons, ob_some, gd_t, ob_t, at20, at21, eq_self, and_self, and_true, true_and, decide_true, decide_false, Bool.not_true, Bool.not_false, isi_none_int, isi_none_bool, isi_none_str, isi_none_tuple, isi_none_list, isi_bool_int, isi_bool_bool, isi_bool_str, isi_bool_tuple, isi_bool_list, isi_int_int, isi_int_bool, isi_int_str, isi_int_tuple, isi_int_list, isi_str_int, isi_str_bool, isi_str_str, isi_str_tuple, isi_str_list, isi_tuple_int, isi_tuple_bool, isi_tuple_str, isi_tuple_tuple, isi_tuple_list, isi_list_int, isi_list_bool, isi_list_str, isi_list_tuple, isi_list_list, Option.map_some, bif_repr, getS_set, getS_frz, length_frz, List.length_set, List.length_map, line, Nat.reduceAdd, Nat.reduceLT, Nat.reduceLeDiff, Nat.reduceEqDiff, Nat.zero_le, Nat.zero_lt_succ, Int.reduceAdd, Int.reduceSub, Int.reduceLT, Int.reduceLE, Int.reduceToNat, Int.reduceNeg, fit_lit, fit62_lit, Bool.and_self, Bool.and_true, Bool.true_and, Bool.not_eq_true, wipe_len, wipe_nil, getS_wipe, ite_line, ite_ltline, fit62_of, fitI_of, mod_pos, ite_and, dec_le, dec_nle, dec_lt, dec_nlt, dec_eq, dec_neq, ite_le, ite_nle, ite_lt, ite_nlt]
    refine foT_seq (fun i en' st' => en'.length = 6 ∧ getS en' 1 = some (.val (.dic 0)) ∧ MOk (100 * i) st') ⟨rfl, rfl, ns ++ [(ns.length : Int)], l, 0, rfl, by simp, by simp; omega, by decide, by decide⟩ (fun i x en' st' hx hI => ?_) (fun en' st' hI => ?_)
    · obtain ⟨hL, h1, hM⟩ := hI
      have hi : i < L.toNat := by
        have := (List.getElem?_eq_some_iff.mp hx).1
        rw [upto_map] at this
        simpa using this
      obtain ⟨ps, rs, f, st1, e1, hp, hpm, r1, r2, r3, hM1⟩ := s_deal (wf := wf) (n := n + 1) (most := 6) (many := 6) (top := 9) (long := 7) hM (by omega) (by decide) (by decide) (by decide) (by decide) (by decide) (by decide) (by decide) (by decide)
      have e1' : runF tbl glb wf (n + 5) "_law_deal" [.dic 0, .dat (.int 6), .dat (.int 6), .dat (.int 9), .dat (.int 7)] st' = .ok (.dat (dealD ps (full rs f)), st1) := e1
      have hD : DealOk ps rs f := dealOk hp (by omega) r2 fun r hr => by
        obtain ⟨a, b, c⟩ := r3 r hr
        exact ⟨a, b, by have : r.1 ≤ 9 := c; omega⟩
      have nD := ni_deal hp hD (by omega)
      obtain ⟨st2, e2, hM2⟩ := s_right (wf := wf) (n := n) hp hD hM1 (by omega)
      simp only [e_var, k_val, k_own, e_glb, k_glb, k_cb, e_int, e_str, e_bl, e_non, e_bin, k_bin, j_bin, e_neg, k_neg, e_nt, k_nt, e_and, e_or, and1, and2, and_t, and_f, or1, or2, or_f, or_t, e_cmp, k_cmp, j_cmp, e_chn, k_chn, j_chn, l_chn, l_chf, e_ite, ite_t, ite_f, e_tup, k_tup, j_tup, e_lst, k_lst, j_lst, e_idx, k_idx, j_idx, e_slc, k_slc, j_slc, l_slc, o_nil, o_one, k_o, e_call, k_call, e_bif, k_bif, e_mth, k_mth, j_mth, e_isi, k_isi, e_lc, k_lc, j_lc, k_lce, k_lca_t, k_lca_f, k_lcb, ts_nil, ts_one, k_tb, e_dg, k_dg, e_dn, el_nil, el_cons, k_el, j_el, er_nil, er_cons, k_er, j_er, i_r1, k_r1, i_r2, k_r2, j_r2, i_en, k_enl, k_ent, i_zp, k_zp, j_zp, l_zp_ll, l_zp_tt, l_zp_tl, l_zp_lt, i_it, k_it, j_it, s_nil, s_seq, k_sqn, k_sqr, k_sqb, k_nx, s_asn, s_aso, ea, k_ea_f, k_ea_t, k_as, s_ast, k_ag, s_par, k_pa, j_pa, l_pa, s_aug, k_au, j_aua, j_aus, s_app, k_ap, j_ap, s_sit, k_si, j_si, l_si, s_a2, k_a2, j_a2, l_a2, s_dp, k_dp, j_dp, s_exp, k_ex, s_iff, k_ift, k_iff, s_for, k_fo, k_foe, s_whl, s_ret, k_re, s_retN, s_brk, s_pass, getS_zero, getS_succ, isOwn, putS, dats, c_lt, c_le, c_gt, c_ge, c_is_none, c_is_int, c_is_str, c_is_tup, c_is_lst, c_is_bool, c_isnot_none, c_isnot_int, c_isnot_str, c_isnot_tup, c_isnot_lst, c_isnot_bool, c_in_sgn, c_eq, c_ne, eqOk_str, eqOk_sh, b_add, b_sub, b_mul, b_mod, b_div, b_addl, b_addt, b_rep, l_lst, l_tup, l_str, i_int, x_lst, x_tup, x_str, m_min, it_l, it_t, it_s, t_lst, q_lst, q_tup, bif_len, bif_int, bif_min, bif_max, bif_sum, bif_sorted, bif_all, bif_any, bif_tuple, bif_list, bif_divmod, mth_count, mth_index, mth_join, List.length_cons, List.length_nil, if_true, if_false, Bool.false_eq_true, Bool.or_false, Bool.false_or, Bool.or_self, List.set_cons_zero, List.set_cons_succ, List.map_cons, List.map_nil, frzS, bG_tp, bG_nm, bGs_nil, bGs_cons, ob_some, gd_t, ob_t, at20, at21, eq_self, and_self, and_true, true_and, decide_true, decide_false, Bool.not_true, Bool.not_false, isi_none_int, isi_none_bool, isi_none_str, isi_none_tuple, isi_none_list, isi_bool_int, isi_bool_bool, isi_bool_str, isi_bool_tuple, isi_bool_list, isi_int_int, isi_int_bool, isi_int_str, isi_int_tuple, isi_int_list, isi_str_int, isi_str_bool, isi_str_str, isi_str_tuple, isi_str_list, isi_tuple_int, isi_tuple_bool, isi_tuple_str, isi_tuple_tuple, isi_tuple_list, isi_list_int, isi_list_bool, isi_list_str, isi_list_tuple, isi_list_list, Option.map_some, bif_repr, getS_set, getS_frz, length_frz, List.length_set, List.length_map, line, Nat.reduceAdd, Nat.reduceLT, Nat.reduceLeDiff, Nat.reduceEqDiff, Nat.zero_le, Nat.zero_lt_succ, Int.reduceAdd, Int.reduceSub, Int.reduceLT, Int.reduceLE, Int.reduceToNat, Int.reduceNeg, fit_lit, fit62_lit, Bool.and_self, Bool.and_true, Bool.true_and, Bool.not_eq_true, wipe_len, wipe_nil, getS_wipe, hL, h1, e1', nD.repr (by decide) (by decide), e2, eqv_str]
      refine ⟨_, rfl, _, _, rfl, ?_⟩
      simp only [e_var, k_val, k_own, e_glb, k_glb, k_cb, e_int, e_str, e_bl, e_non, e_bin, k_bin, j_bin, e_neg, k_neg, e_nt, k_nt, e_and, e_or, and1, and2, and_t, and_f, or1, or2, or_f, or_t, e_cmp, k_cmp, j_cmp, e_chn, k_chn, j_chn, l_chn, l_chf, e_ite, ite_t, ite_f, e_tup, k_tup, j_tup, e_lst, k_lst, j_lst, e_idx, k_idx, j_idx, e_slc, k_slc, j_slc, l_slc, o_nil, o_one, k_o, e_call, k_call, e_bif, k_bif, e_mth, k_mth, j_mth, e_isi, k_isi, e_lc, k_lc, j_lc, k_lce, k_lca_t, k_lca_f, k_lcb, ts_nil, ts_one, k_tb, e_dg, k_dg, e_dn, el_nil, el_cons, k_el, j_el, er_nil, er_cons, k_er, j_er, i_r1, k_r1, i_r2, k_r2, j_r2, i_en, k_enl, k_ent, i_zp, k_zp, j_zp, l_zp_ll, l_zp_tt, l_zp_tl, l_zp_lt, i_it, k_it, j_it, s_nil, s_seq, k_sqn, k_sqr, k_sqb, k_nx, s_asn, s_aso, ea, k_ea_f, k_ea_t, k_as, s_ast, k_ag, s_par, k_pa, j_pa, l_pa, s_aug, k_au, j_aua, j_aus, s_app, k_ap, j_ap, s_sit, k_si, j_si, l_si, s_a2, k_a2, j_a2, l_a2, s_dp, k_dp, j_dp, s_exp, k_ex, s_iff, k_ift, k_iff, s_for, k_fo, k_foe, s_whl, s_ret, k_re, s_retN, s_brk, s_pass, getS_zero, getS_succ, isOwn, putS, dats, c_lt, c_le, c_gt, c_ge, c_is_none, c_is_int, c_is_str, c_is_tup, c_is_lst, c_is_bool, c_isnot_none, c_isnot_int, c_isnot_str, c_isnot_tup, c_isnot_lst, c_isnot_bool, c_in_sgn, c_eq, c_ne, eqOk_str, eqOk_sh, b_add, b_sub, b_mul, b_mod, b_div, b_addl, b_addt, b_rep, l_lst, l_tup, l_str, i_int, x_lst, x_tup, x_str, m_min, it_l, it_t, it_s, t_lst, q_lst, q_tup, bif_len, bif_int, bif_min, bif_max, bif_sum, bif_sorted, bif_all, bif_any, bif_tuple, bif_list, bif_divmod, mth_count, mth_index, mth_join, List.length_cons, List.length_nil, if_true, if_false, Bool.false_eq_true, Bool.or_false, Bool.false_or, Bool.or_self, List.set_cons_zero, List.set_cons_succ, List.map_cons, List.map_nil, frzS, bG_tp, bG_nm, bGs_nil, bGs_cons, ob_some, gd_t, ob_t, at20, at21, eq_self, and_self, and_true, true_and, decide_true, decide_false, Bool.not_true, Bool.not_false, isi_none_int, isi_none_bool, isi_none_str, isi_none_tuple, isi_none_list, isi_bool_int, isi_bool_bool, isi_bool_str, isi_bool_tuple, isi_bool_list, isi_int_int, isi_int_bool, isi_int_str, isi_int_tuple, isi_int_list, isi_str_int, isi_str_bool, isi_str_str, isi_str_tuple, isi_str_list, isi_tuple_int, isi_tuple_bool, isi_tuple_str, isi_tuple_tuple, isi_tuple_list, isi_list_int, isi_list_bool, isi_list_str, isi_list_tuple, isi_list_list, Option.map_some, bif_repr, getS_set, getS_frz, length_frz, List.length_set, List.length_map, line, Nat.reduceAdd, Nat.reduceLT, Nat.reduceLeDiff, Nat.reduceEqDiff, Nat.zero_le, Nat.zero_lt_succ, Int.reduceAdd, Int.reduceSub, Int.reduceLT, Int.reduceLE, Int.reduceToNat, Int.reduceNeg, fit_lit, fit62_lit, Bool.and_self, Bool.and_true, Bool.true_and, Bool.not_eq_true, wipe_len, wipe_nil, getS_wipe, hL, h1]
      exact hM2.mono (by omega)
    · obtain ⟨hL, h1, hM⟩ := hI
      simp only [e_var, k_val, k_own, e_glb, k_glb, k_cb, e_int, e_str, e_bl, e_non, e_bin, k_bin, j_bin, e_neg, k_neg, e_nt, k_nt, e_and, e_or, and1, and2, and_t, and_f, or1, or2, or_f, or_t, e_cmp, k_cmp, j_cmp, e_chn, k_chn, j_chn, l_chn, l_chf, e_ite, ite_t, ite_f, e_tup, k_tup, j_tup, e_lst, k_lst, j_lst, e_idx, k_idx, j_idx, e_slc, k_slc, j_slc, l_slc, o_nil, o_one, k_o, e_call, k_call, e_bif, k_bif, e_mth, k_mth, j_mth, e_isi, k_isi, e_lc, k_lc, j_lc, k_lce, k_lca_t, k_lca_f, k_lcb, ts_nil, ts_one, k_tb, e_dg, k_dg, e_dn, el_nil, el_cons, k_el, j_el, er_nil, er_cons, k_er, j_er, i_r1, k_r1, i_r2, k_r2, j_r2, i_en, k_enl, k_ent, i_zp, k_zp, j_zp, l_zp_ll, l_zp_tt, l_zp_tl, l_zp_lt, i_it, k_it, j_it, s_nil, s_seq, k_sqn, k_sqr, k_sqb, k_nx, s_asn, s_aso, ea, k_ea_f, k_ea_t, k_as, s_ast, k_ag, s_par, k_pa, j_pa, l_pa, s_aug, k_au, j_aua, j_aus, s_app, k_ap, j_ap, s_sit, k_si, j_si, l_si, s_a2, k_a2, j_a2, l_a2, s_dp, k_dp, j_dp, s_exp, k_ex, s_iff, k_ift, k_iff, s_for, k_fo, k_foe, s_whl, s_ret, k_re, s_retN, s_brk, s_pass, getS_zero, getS_succ, isOwn, putS, dats, c_lt, c_le, c_gt, c_ge, c_is_none, c_is_int, c_is_str, c_is_tup, c_is_lst, c_is_bool, c_isnot_none, c_isnot_int, c_isnot_str, c_isnot_tup, c_isnot_lst, c_isnot_bool, c_in_sgn, c_eq, c_ne, eqOk_str, eqOk_sh, b_add, b_sub, b_mul, b_mod, b_div, b_addl, b_addt, b_rep, l_lst, l_tup, l_str, i_int, x_lst, x_tup, x_str, m_min, it_l, it_t, it_s, t_lst, q_lst, q_tup, bif_len, bif_int, bif_min, bif_max, bif_sum, bif_sorted, bif_all, bif_any, bif_tuple, bif_list, bif_divmod, mth_count, mth_index, mth_join, List.length_cons, List.length_nil, if_true, if_false, Bool.false_eq_true, Bool.or_false, Bool.false_or, Bool.or_self, List.set_cons_zero, List.set_cons_succ, List.map_cons, List.map_nil, frzS, bG_tp, bG_nm, bGs_nil, bGs_cons, ob_some, gd_t, ob_t, at20, at21, eq_self, and_self, and_true, true_and, decide_true, decide_false, Bool.not_true, Bool.not_false, isi_none_int, isi_none_bool, isi_none_str, isi_none_tuple, isi_none_list, isi_bool_int, isi_bool_bool, isi_bool_str, isi_bool_tuple, isi_bool_list, isi_int_int, isi_int_bool, isi_int_str, isi_int_tuple, isi_int_list, isi_str_int, isi_str_bool, isi_str_str, isi_str_tuple, isi_str_list, isi_tuple_int, isi_tuple_bool, isi_tuple_str, isi_tuple_tuple, isi_tuple_list, isi_list_int, isi_list_bool, isi_list_str, isi_list_tuple, isi_list_list, Option.map_some, bif_repr, getS_set, getS_frz, length_frz, List.length_set, List.length_map, line, Nat.reduceAdd, Nat.reduceLT, Nat.reduceLeDiff, Nat.reduceEqDiff, Nat.zero_le, Nat.zero_lt_succ, Int.reduceAdd, Int.reduceSub, Int.reduceLT, Int.reduceLE, Int.reduceToNat, Int.reduceNeg, fit_lit, fit62_lit, Bool.and_self, Bool.and_true, Bool.true_and, Bool.not_eq_true, wipe_len, wipe_nil, getS_wipe, hL, end1, eqOk_sh (show SeqAt.shaped oneR = true by decide +kernel) (show SeqAt.shaped oneR = true by decide +kernel), show PyData.eqv oneR oneR = true by decide +kernel]
      simp only [e_var, k_val, k_own, e_glb, k_glb, k_cb, e_int, e_str, e_bl, e_non, e_bin, k_bin, j_bin, e_neg, k_neg, e_nt, k_nt, e_and, e_or, and1, and2, and_t, and_f, or1, or2, or_f, or_t, e_cmp, k_cmp, j_cmp, e_chn, k_chn, j_chn, l_chn, l_chf, e_ite, ite_t, ite_f, e_tup, k_tup, j_tup, e_lst, k_lst, j_lst, e_idx, k_idx, j_idx, e_slc, k_slc, j_slc, l_slc, o_nil, o_one, k_o, e_call, k_call, e_bif, k_bif, e_mth, k_mth, j_mth, e_isi, k_isi, e_lc, k_lc, j_lc, k_lce, k_lca_t, k_lca_f, k_lcb, ts_nil, ts_one, k_tb, e_dg, k_dg, e_dn, el_nil, el_cons, k_el, j_el, er_nil, er_cons, k_er, j_er, i_r1, k_r1, i_r2, k_r2, j_r2, i_en, k_enl, k_ent, i_zp, k_zp, j_zp, l_zp_ll, l_zp_tt, l_zp_tl, l_zp_lt, i_it, k_it, j_it, s_nil, s_seq, k_sqn, k_sqr, k_sqb, k_nx, s_asn, s_aso, ea, k_ea_f, k_ea_t, k_as, s_ast, k_ag, s_par, k_pa, j_pa, l_pa, s_aug, k_au, j_aua, j_aus, s_app, k_ap, j_ap, s_sit, k_si, j_si, l_si, s_a2, k_a2, j_a2, l_a2, s_dp, k_dp, j_dp, s_exp, k_ex, s_iff, k_ift, k_iff, s_for, k_fo, k_foe, s_whl, s_ret, k_re, s_retN, s_brk, s_pass, getS_zero, getS_succ, isOwn, putS, dats, c_lt, c_le, c_gt, c_ge, c_is_none, c_is_int, c_is_str, c_is_tup, c_is_lst, c_is_bool, c_isnot_none, c_isnot_int, c_isnot_str, c_isnot_tup, c_isnot_lst, c_isnot_bool, c_in_sgn, c_eq, c_ne, eqOk_str, eqOk_sh, b_add, b_sub, b_mul, b_mod, b_div, b_addl, b_addt, b_rep, l_lst, l_tup, l_str, i_int, x_lst, x_tup, x_str, m_min, it_l, it_t, it_s, t_lst, q_lst, q_tup, bif_len, bif_int, bif_min, bif_max, bif_sum, bif_sorted, bif_all, bif_any, bif_tuple, bif_list, bif_divmod, mth_count, mth_index, mth_join, List.length_cons, List.length_nil, if_true, if_false, Bool.false_eq_true, Bool.or_false, Bool.false_or, Bool.or_self, List.set_cons_zero, List.set_cons_succ, List.map_cons, List.map_nil, frzS, bG_tp, bG_nm, bGs_nil, bGs_cons, ob_some, gd_t, ob_t, at20, at21, eq_self, and_self, and_true, true_and, decide_true, decide_false, Bool.not_true, Bool.not_false, isi_none_int, isi_none_bool, isi_none_str, isi_none_tuple, isi_none_list, isi_bool_int, isi_bool_bool, isi_bool_str, isi_bool_tuple, isi_bool_list, isi_int_int, isi_int_bool, isi_int_str, isi_int_tuple, isi_int_list, isi_str_int, isi_str_bool, isi_str_str, isi_str_tuple, isi_str_list, isi_tuple_int, isi_tuple_bool, isi_tuple_str, isi_tuple_tuple, isi_tuple_list, isi_list_int, isi_list_bool, isi_list_str, isi_list_tuple, isi_list_list, Option.map_some, bif_repr, getS_set, getS_frz, length_frz, List.length_set, List.length_map, line, Nat.reduceAdd, Nat.reduceLT, Nat.reduceLeDiff, Nat.reduceEqDiff, Nat.zero_le, Nat.zero_lt_succ, Int.reduceAdd, Int.reduceSub, Int.reduceLT, Int.reduceLE, Int.reduceToNat, Int.reduceNeg, fit_lit, fit62_lit, Bool.and_self, Bool.and_true, Bool.true_and, Bool.not_eq_true, wipe_len, wipe_nil, getS_wipe, hL, end2, end3, end4, end5, end6, eqOk_p2, eqv_p2, eqv_str]
      exact ⟨_, rfl, _, rfl⟩
  obtain ⟨o, e, st', rfl⟩ := key
  exact ⟨st', run_def (fn := fn_law) rfl rfl (by decide) e⟩
end
theorem law_pure : ∀ ns : List Int, ns.length ≤ 63 → ∃ st', runF tbl glb 0 (12 + 1) "law" [.dat (.list (ns.map .int))] [] = .ok (.dat (.bool true), st') := fun ns hn => s_law (wf := 0) (n := 7) ns hn
end Rm

set_option Elab.async false
set_option linter.all false
set_option maxRecDepth 100000
/-! Rv, part 1: how plain data lies in the heap. -/
namespace Rv
open PySem PySem.Spec PyProof.Rows L2

/-- a list that nobody changes any more: frozen, or of the written part -/
def FzL (K : PySem.W.Frag) (H : Hp) (a : Addr) (xs : List V) : Prop := (∃ o, H a = some (.frz o (.lst xs))) ∨ SqL K (fun _ => none) a xs
theorem sq_off {K : PySem.W.Frag} {a : Addr} {xs : List V} (h : SqL K (fun _ => none) a xs) (H : Hp) : SqL K H a xs := by
  rcases h with (h | ⟨o, h⟩) | h
  · cases h
  · cases h
  · exact .inr h
theorem FzL.sq {K : PySem.W.Frag} {H : Hp} {a : Addr} {xs : List V} (h : FzL K H a xs) : SqL K H a xs := by
  rcases h with ⟨o, h⟩ | h
  · exact .inl (.inr ⟨o, h⟩)
  · exact sq_off h H

/-- a tuple, its very object known -/
def TpL (_ : PySem.W.Frag) (H : Hp) (a : Addr) (xs : List V) : Prop := ∃ o, H a = some (.frz o (.tup xs)) ∧ o.dict = none
theorem TpL.sq {K : PySem.W.Frag} {H : Hp} {a : Addr} {xs : List V} (h : TpL K H a xs) : SqT K H a xs := by
  obtain ⟨o, h, _⟩ := h
  exact .inl (.inr ⟨o, h⟩)

mutual
inductive At (K : PySem.W.Frag) (H : Hp) : V → PyData → Prop
  | non : At K H .non .none
  | bl (b : Bool) : At K H (.bl b) (.bool b)
  | int (i : Int) : At K H (.int i) (.int i)
  | str (x : Str) : At K H (.str x) (.str x)
  | lst {a : Addr} {xs : List V} {ds : List PyData} : FzL K H a xs → AtL K H xs ds → At K H (.ref a) (.list ds)
  | tup {a : Addr} {xs : List V} {ds : List PyData} : TpL K H a xs → AtL K H xs ds → At K H (.ref a) (.tuple ds)
inductive AtL (K : PySem.W.Frag) (H : Hp) : List V → List PyData → Prop
  | nil : AtL K H [] []
  | cons {v : V} {vs : List V} {d : PyData} {ds : List PyData} : At K H v d → AtL K H vs ds → AtL K H (v :: vs) (d :: ds)
end

/-- nothing changed but dicts (and more may be there) -/
def Ext (H H' : Hp) : Prop := (∀ b o, H b = some o → (∀ kvs, o ≠ .dK kvs) → H' b = some o) ∧ ∀ b, H' b = none → H b = none
theorem Ext.refl (H : Hp) : Ext H H := ⟨fun _ _ h _ => h, fun _ h => h⟩
theorem Ext.trans {H H1 H2 : Hp} (a : Ext H H1) (b : Ext H1 H2) : Ext H H2 := ⟨fun c o h n => b.1 c o (a.1 c o h n) n, fun c h => a.2 c (b.2 c h)⟩
theorem upd_none {H : Hp} {p b : Addr} {o : HO} (h : upd H p o b = none) : H b = none := by
  by_cases q : b = p
  · rw [q, upd_same] at h; cases h
  · rw [upd_ne q] at h; exact h
theorem Ext.new {H : Hp} {p : Addr} {o : HO} (h : H p = none) : Ext H (upd H p o) := ⟨fun b u e _ => by
  rw [upd_ne (ne_of_none e h)]; exact e, fun b q => upd_none q⟩
theorem Ext.dict {H : Hp} {p : Addr} {o : HO} {kvs : List (Key × V)} (h : H p = some (.dK kvs)) : Ext H (upd H p o) := ⟨fun b u e n => by
  by_cases q : b = p
  · subst q; rw [h] at e; cases e; exact absurd rfl (n kvs)
  · rw [upd_ne q]; exact e, fun b q => upd_none q⟩

/-- what the relation leans on: tuples and frozen things -/
def Pst (H H' : Hp) : Prop := (∀ b xs, H b = some (.tup xs) → H' b = some (.tup xs)) ∧ ∀ b o u, H b = some (.frz o u) → H' b = some (.frz o u)
theorem Ext.pst {H H' : Hp} (e : Ext H H') : Pst H H' := ⟨fun b xs h => e.1 b _ h (fun _ z => nomatch z), fun b o u h => e.1 b _ h (fun _ z => nomatch z)⟩
theorem Pst.trans {H H1 H2 : Hp} (a : Pst H H1) (b : Pst H1 H2) : Pst H H2 := ⟨fun c xs h => b.1 c xs (a.1 c xs h), fun c o u h => b.2 c o u (a.2 c o u h)⟩
/-- a list that is written -/
theorem Pst.lst {H : Hp} {p : Addr} {o : HO} {xs : List V} (h : H p = some (.lst xs)) : Pst H (upd H p o) :=
  ⟨fun b ys e => by rw [upd_ne (ne_of e h (fun z => nomatch z))]; exact e, fun b ob u e => by rw [upd_ne (ne_of e h (fun z => nomatch z))]; exact e⟩
theorem Pst.tpL {K : PySem.W.Frag} {H H' : Hp} (e : Pst H H') {a : Addr} {xs : List V} (h : TpL K H a xs) : TpL K H' a xs := by
  obtain ⟨o, h, d⟩ := h
  exact ⟨o, e.2 _ _ _ h, d⟩
theorem Pst.fzL {K : PySem.W.Frag} {H H' : Hp} (e : Pst H H') {a : Addr} {xs : List V} (h : FzL K H a xs) : FzL K H' a xs := by
  rcases h with ⟨o, h⟩ | h
  · exact .inl ⟨o, e.2 _ _ _ h⟩
  · exact .inr h
mutual
theorem At.pst {K : PySem.W.Frag} {H H' : Hp} (e : Pst H H') : ∀ (d : PyData) (v : V), At K H v d → At K H' v d
  | .none, _, h => by cases h; exact .non
  | .bool b, _, h => by cases h; exact .bl b
  | .int i, _, h => by cases h; exact .int i
  | .str x, _, h => by cases h; exact .str x
  | .list ds, _, h => by cases h with | lst a b => exact .lst (e.fzL a) (AtL.pst e ds _ b)
  | .tuple ds, _, h => by cases h with | tup a b => exact .tup (e.tpL a) (AtL.pst e ds _ b)
  | .dict _, _, h => nomatch h
theorem AtL.pst {K : PySem.W.Frag} {H H' : Hp} (e : Pst H H') : ∀ (ds : List PyData) (vs : List V), AtL K H vs ds → AtL K H' vs ds
  | [], _, h => by cases h; exact .nil
  | d :: ds, _, h => by cases h with | cons a b => exact .cons (At.pst e d _ a) (AtL.pst e ds _ b)
end
mutual
theorem At.dp {K : PySem.W.Frag} {H : Hp} : ∀ (d : PyData) (v : V), At K H v d → Dp K H v d
  | .none, _, h => by cases h; exact .non
  | .bool b, _, h => by cases h; exact .bl b
  | .int i, _, h => by cases h; exact .int i
  | .str x, _, h => by cases h; exact .str x
  | .list ds, _, h => by cases h with | lst a b => exact .lst a.sq (AtL.dp ds _ b)
  | .tuple ds, _, h => by cases h with | tup a b => exact .tup a.sq (AtL.dp ds _ b)
  | .dict _, _, h => nomatch h
theorem AtL.dp {K : PySem.W.Frag} {H : Hp} : ∀ (ds : List PyData) (vs : List V), AtL K H vs ds → DpAll K H vs ds
  | [], _, h => by cases h; exact .nil
  | d :: ds, _, h => by cases h with | cons a b => exact .cons (At.dp d _ a) (AtL.dp ds _ b)
end
theorem At.ext {K : PySem.W.Frag} {H H' : Hp} {d : PyData} {v : V} (h : At K H v d) (e : Ext H H') : At K H' v d := h.pst e.pst
theorem AtL.ext {K : PySem.W.Frag} {H H' : Hp} {d : List PyData} {v : List V} (h : AtL K H v d) (e : Ext H H') : AtL K H' v d := h.pst e.pst

section
variable {K : PySem.W.Frag} {H : Hp}
theorem AtL.length : ∀ {vs : List V} {ds : List PyData}, AtL K H vs ds → vs.length = ds.length
  | _, _, .nil => rfl
  | _, _, .cons _ t => by rw [List.length_cons, List.length_cons, AtL.length t]
theorem AtL.get : ∀ {vs : List V} {ds : List PyData} {i : Nat} {d : PyData}, AtL K H vs ds → ds[i]? = some d → ∃ v, vs[i]? = some v ∧ At K H v d
  | _, _, _, _, .nil, e => by simp at e
  | _, _, 0, _, .cons r _, e => by simp at e; subst e; exact ⟨_, rfl, r⟩
  | _, _, i + 1, d, .cons _ t, e => by
    obtain ⟨u, h1, h2⟩ := AtL.get (i := i) t (by simpa using e)
    exact ⟨u, by simpa using h1, h2⟩
theorem AtL.getV : ∀ {vs : List V} {ds : List PyData} {i : Nat} {v : V}, AtL K H vs ds → vs[i]? = some v → ∃ d, ds[i]? = some d ∧ At K H v d
  | _, _, _, _, .nil, e => by simp at e
  | _, _, 0, _, .cons r _, e => by simp at e; subst e; exact ⟨_, rfl, r⟩
  | _, _, i + 1, d, .cons _ t, e => by
    obtain ⟨u, h1, h2⟩ := AtL.getV (i := i) t (by simpa using e)
    exact ⟨u, by simpa using h1, h2⟩
theorem AtL.append : ∀ {vs : List V} {ds : List PyData} {ws : List V} {es : List PyData}, AtL K H vs ds → AtL K H ws es → AtL K H (vs ++ ws) (ds ++ es)
  | _, _, _, _, .nil, s => s
  | _, _, _, _, .cons r t, s => .cons r (AtL.append t s)
theorem AtL.take : ∀ {vs : List V} {ds : List PyData} (n : Nat), AtL K H vs ds → AtL K H (vs.take n) (ds.take n)
  | _, _, 0, _ => .nil
  | _, _, _ + 1, .nil => .nil
  | _, _, n + 1, .cons r t => .cons r (AtL.take n t)
theorem AtL.drop : ∀ {vs : List V} {ds : List PyData} (n : Nat), AtL K H vs ds → AtL K H (vs.drop n) (ds.drop n)
  | _, _, 0, r => r
  | _, _, _ + 1, .nil => .nil
  | _, _, n + 1, .cons _ t => AtL.drop n t
theorem AtL.set {v : V} {d : PyData} (r : At K H v d) : ∀ {vs : List V} {ds : List PyData} (i : Nat), AtL K H vs ds → AtL K H (vs.set i v) (ds.set i d)
  | _, _, _, .nil => .nil
  | _, _, 0, .cons _ t => .cons r t
  | _, _, i + 1, .cons q t => .cons q (AtL.set r i t)
theorem AtL.rep {vs : List V} {ds : List PyData} (h : AtL K H vs ds) : ∀ n : Nat, AtL K H (List.replicate n vs).flatten (List.replicate n ds).flatten
  | 0 => .nil
  | n + 1 => by
    rw [List.replicate_succ, List.replicate_succ, List.flatten_cons, List.flatten_cons]
    exact h.append (AtL.rep h n)
theorem AtL.ints : ∀ {vs : List V} {ds : List PyData} {ns : List Int}, AtL K H vs ds → ints? ds = some ns → vs = ns.map V.int
  | _, _, _, .nil, e => by cases e; rfl
  | _, .int i :: r, ns, .cons h t, e => by
    simp only [ints?, Option.map_eq_some_iff] at e
    obtain ⟨m, e1, rfl⟩ := e
    cases h
    rw [List.map_cons, AtL.ints t e1]
  | _, .none :: r, ns, .cons h t, e => by cases e
  | _, .bool _ :: r, ns, .cons h t, e => by cases e
  | _, .str _ :: r, ns, .cons h t, e => by cases e
  | _, .list _ :: r, ns, .cons h t, e => by cases e
  | _, .tuple _ :: r, ns, .cons h t, e => by cases e
  | _, .dict _ :: r, ns, .cons h t, e => by cases e
theorem AtL.strs : ∀ {vs : List V} {ds : List PyData} {ns : List Str}, AtL K H vs ds → strs? ds = some ns → vs = ns.map V.str
  | _, _, _, .nil, e => by cases e; rfl
  | _, .str i :: r, ns, .cons h t, e => by
    simp only [strs?, Option.map_eq_some_iff] at e
    obtain ⟨m, e1, rfl⟩ := e
    cases h
    rw [List.map_cons, AtL.strs t e1]
  | _, .none :: r, ns, .cons h t, e => by cases e
  | _, .bool _ :: r, ns, .cons h t, e => by cases e
  | _, .int _ :: r, ns, .cons h t, e => by cases e
  | _, .list _ :: r, ns, .cons h t, e => by cases e
  | _, .tuple _ :: r, ns, .cons h t, e => by cases e
  | _, .dict _ :: r, ns, .cons h t, e => by cases e
theorem AtL.bools : ∀ {vs : List V} {ds : List PyData} {ns : List Bool}, AtL K H vs ds → bools? ds = some ns → vs = ns.map V.bl
  | _, _, _, .nil, e => by cases e; rfl
  | _, .bool i :: r, ns, .cons h t, e => by
    simp only [bools?, Option.map_eq_some_iff] at e
    obtain ⟨m, e1, rfl⟩ := e
    cases h
    rw [List.map_cons, AtL.bools t e1]
  | _, .none :: r, ns, .cons h t, e => by cases e
  | _, .str _ :: r, ns, .cons h t, e => by cases e
  | _, .int _ :: r, ns, .cons h t, e => by cases e
  | _, .list _ :: r, ns, .cons h t, e => by cases e
  | _, .tuple _ :: r, ns, .cons h t, e => by cases e
  | _, .dict _ :: r, ns, .cons h t, e => by cases e
theorem at_ints : ∀ ns : List Int, AtL K H (ns.map V.int) (ns.map PyData.int)
  | [] => .nil
  | n :: r => .cons (.int n) (at_ints r)
end

/-- what may be read: a datum, or a list that is owned -/
def Rdy (K : PySem.W.Frag) (H : Hp) (v : V) (d : PyData) : Prop := At K H v d ∨ ∃ a xs l, v = .ref a ∧ d = .list l ∧ H a = some (.lst xs) ∧ AtL K H xs l
theorem Rdy.ext {K : PySem.W.Frag} {H H' : Hp} {d : PyData} {v : V} (h : Rdy K H v d) (e : Ext H H') : Rdy K H' v d := by
  rcases h with h | ⟨a, xs, l, rfl, rfl, h1, h2⟩
  · exact .inl (h.ext e)
  · exact .inr ⟨a, xs, l, rfl, rfl, e.1 a _ h1 (fun _ z => nomatch z), h2.ext e⟩
theorem Rdy.dp {K : PySem.W.Frag} {H : Hp} {d : PyData} {v : V} (h : Rdy K H v d) : Dp K H v d := by
  rcases h with h | ⟨a, xs, l, rfl, rfl, h1, h2⟩
  · exact h.dp
  · exact .lst (SqL.of h1) h2.dp
section
variable {K : PySem.W.Frag} {H : Hp} {v : V}
theorem Rdy.non (h : Rdy K H v .none) : v = .non := by
  rcases h with h | ⟨a, xs, l, rfl, e, h1, h2⟩
  · cases h; rfl
  · cases e
theorem Rdy.bl {b : Bool} (h : Rdy K H v (.bool b)) : v = .bl b := by
  rcases h with h | ⟨a, xs, l, rfl, e, h1, h2⟩
  · cases h; rfl
  · cases e
theorem Rdy.int {i : Int} (h : Rdy K H v (.int i)) : v = .int i := by
  rcases h with h | ⟨a, xs, l, rfl, e, h1, h2⟩
  · cases h; rfl
  · cases e
theorem Rdy.str {x : Str} (h : Rdy K H v (.str x)) : v = .str x := by
  rcases h with h | ⟨a, xs, l, rfl, e, h1, h2⟩
  · cases h; rfl
  · cases e
theorem Rdy.tup {l : List PyData} (h : Rdy K H v (.tuple l)) : ∃ a xs, v = .ref a ∧ TpL K H a xs ∧ AtL K H xs l := by
  rcases h with h | ⟨a, xs, l, rfl, e, h1, h2⟩
  · cases h with | tup a b => exact ⟨_, _, rfl, a, b⟩
  · cases e
theorem Rdy.lst {l : List PyData} (h : Rdy K H v (.list l)) : ∃ a xs, v = .ref a ∧ SqL K H a xs ∧ AtL K H xs l := by
  rcases h with h | ⟨a, xs, l, rfl, e, h1, h2⟩
  · cases h with | lst a b => exact ⟨_, _, rfl, a.sq, b⟩
  · cases e; exact ⟨_, _, rfl, SqL.of h1, h2⟩
theorem Rdy.nodict {l : List (PyData × PyData)} (h : Rdy K H v (.dict l)) : False := by
  rcases h with h | ⟨a, xs, l, rfl, e, h1, h2⟩
  · cases h
  · cases e
end

/-! ### dicts by number -/
def AtV (K : PySem.W.Frag) (ι : List Addr) (H : Hp) (v : V) : Vl → Prop
  | .dat d => At K H v d
  | .dic k => ∃ a, ι[k]? = some a ∧ v = .ref a
def KVs (K : PySem.W.Frag) (H : Hp) : List (Str × PyData) → List (Key × V) → Prop := Paired fun (p : Str × PyData) (q : Key × V) => q.1 = .inr p.1 ∧ At K H q.2 p.2
structure RelS (K : PySem.W.Frag) (ι : List Addr) (st : Sto) (H : Hp) : Prop where
  len : ι.length = st.length
  nod : ι.Nodup
  at_ : ∀ (k : Nat) (a : Addr) (kvs : List (Str × PyData)), ι[k]? = some a → st[k]? = some kvs → ∃ ws, H a = some (.dK ws) ∧ KVs K H kvs ws ∧ (kvs.map (·.1)).Nodup
theorem KVs.pst {K : PySem.W.Frag} {H H' : Hp} (e : Pst H H') {kvs : List (Str × PyData)} {ws : List (Key × V)} (h : KVs K H kvs ws) : KVs K H' kvs ws := Paired.mapP h fun _ _ q => ⟨q.1, q.2.pst e⟩
/-- the store's dicts stay, all tuples and frozen things too -/
theorem RelS.keep {K : PySem.W.Frag} {ι : List Addr} {st : Sto} {H H' : Hp} (r : RelS K ι st H) (e : Pst H H') (d : ∀ a ws, a ∈ ι → H a = some (.dK ws) → H' a = some (.dK ws)) : RelS K ι st H' :=
  ⟨r.len, r.nod, fun k a kvs h1 h2 => by
    obtain ⟨ws, h3, h4, h5⟩ := r.at_ k a kvs h1 h2
    exact ⟨ws, d a ws (List.mem_of_getElem? h1) h3, h4.pst e, h5⟩⟩
theorem RelS.new {K : PySem.W.Frag} {ι : List Addr} {st : Sto} {H : Hp} {p : Addr} {o : HO} (r : RelS K ι st H) (h : H p = none) : RelS K ι st (upd H p o) :=
  r.keep (Ext.new h).pst fun a ws _ q => by rw [upd_ne (ne_of_none q h)]; exact q
theorem RelS.lst {K : PySem.W.Frag} {ι : List Addr} {st : Sto} {H : Hp} {p : Addr} {o : HO} {xs : List V} (r : RelS K ι st H) (h : H p = some (.lst xs)) : RelS K ι st (upd H p o) :=
  r.keep (Pst.lst h) fun a ws _ q => by rw [upd_ne (ne_of q h (fun z => nomatch z))]; exact q
theorem AtV.ext {K : PySem.W.Frag} {ι ι' : List Addr} {H H' : Hp} {v : V} : ∀ {r : Vl}, AtV K ι H v r → ι <+: ι' → Ext H H' → AtV K ι' H' v r
  | .dat d, h, _, e => At.ext h e
  | .dic k, ⟨a, h, z⟩, p, _ => ⟨a, by
    obtain ⟨t, rfl⟩ := p
    exact List.getElem?_append_left (by exact (List.getElem?_eq_some_iff.mp h).1) ▸ h, z⟩

/-! ### freezing -/
section
variable {X : Cx} {pins : List (Addr × Obj)} {σ : L2.St} {H : Hp} {s : Shared}
theorem inv_frz {a : Addr} {xs : List V} (I : L2.Inv X pins σ H s) (h : H a = some (.lst xs)) : ∃ o, L2.Inv X pins σ (upd H a (.frz o (.lst xs))) s := by
  obtain ⟨z, its, n, r, e⟩ := I.hok a _ h
  refine ⟨{ cls := .type "list", data := .seq its.toArray n }, ?_⟩
  refine ⟨I.ok, I.os, I.bare, ⟨fun b o q m hb hx => I.base.keep b o q m hb hx, fun b o q m hb hx => I.base.slot b o q m hb hx, fun b o q m hx => ?_, fun b o q hx => I.base.there b o q hx, fun b ys q => ?_, fun b o u q => ?_, fun b ps q => ?_⟩, I.loc, I.cell, ?_, fun x c q => ?_, fun p hp => ?_, fun b o q => ?_, I.len⟩
  · rw [upd_ne (fun z => by subst z; rw [I.base.free _ o q m hx] at h; cases h)]
    exact I.base.free b o q m hx
  · rw [upd_ne (ne_of (I.base.tups b ys q) h (fun z => nomatch z))]
    exact I.base.tups b ys q
  · rw [upd_ne (ne_of (I.base.frzs b o u q) h (fun z => nomatch z))]
    exact I.base.frzs b o u q
  · obtain ⟨m, hm⟩ := I.base.tbls b ps q
    exact ⟨m, by rw [upd_ne (ne_of hm h (fun z => nomatch z))]; exact hm⟩
  · rw [upd_ne (fun z => by rw [← z, I.free] at h; cases h)]
    exact I.free
  · rw [upd_ne (fun z => by rw [← z, I.freeC x c q] at h; cases h)]
    exact I.freeC x c q
  · obtain ⟨e1, e2, e3⟩ := I.pin p hp
    exact ⟨e1, by rw [upd_ne (fun z => by rw [← z, e2] at h; cases h)]; exact e2, e3⟩
  · by_cases hb : b = a
    · subst hb
      rw [upd_same] at q
      cases q
      exact ⟨e, z, its, n, r, e⟩
    · rw [upd_ne hb] at q
      exact (I.hok b o q).stay (fun c u _ k => k) (fun c k => by rw [upd_ne (ne_of k h (fun z => nomatch z))]; exact k) fun c ys k => by rw [upd_ne (ne_of k h (fun z => nomatch z))]; exact k
end
/-- an expression whose new list is frozen -/
theorem pe_frz {X : Cx} {e : Expr} {t : TE} (h : PE X e t) : PE X e (fun σ H Q => t σ H fun v H1 => ∃ a xs, v = .ref a ∧ H1 a = some (.lst xs) ∧ ∀ o, Q v (upd H1 a (.frz o (.lst xs)))) := by
  refine ⟨fun pins s σ H Q I hq => thn (h.run pins s σ H _ I hq) fun u s1 ⟨v, H1, I1, r, a, xs, e1, e2, q⟩ => ?_⟩
  obtain ⟨o, I2⟩ := inv_frz I1 e2
  exact ⟨v, _, I2, r, q o⟩
theorem pe_imp {X : Cx} {e : Expr} {t t' : TE} (h : PE X e t) (i : ∀ σ H Q, t' σ H Q → t σ H Q) : PE X e t' := ⟨fun pins s σ H Q I hq => h.run pins s σ H Q I (i σ H Q hq)⟩
theorem pt_imp {X : Cx} {e : Expr} {t t' : TT} (h : PT X e t) (i : ∀ σ H Q, t' σ H Q → t σ H Q) : PT X e t' := ⟨fun pins s σ H Q I hq => h.run pins s σ H Q I (i σ H Q hq)⟩
theorem pa_imp {X : Cx} {e : List Expr} {t t' : TA} (h : PA X e t) (i : ∀ σ H Q, t' σ H Q → t σ H Q) : PA X e t' := ⟨fun pos pins s σ H Q I hq => h.run pos pins s σ H Q I (i σ H Q hq)⟩
theorem ps_imp {X : Cx} {e : Stmt} {t t' : TS} (h : PS X e t) (i : ∀ D σ H, t' D σ H → t D σ H) : PS X e t' := ⟨fun pins s σ H D I hq => h.run pins s σ H D I (i D σ H hq)⟩
theorem pss_imp {X : Cx} {e : List Stmt} {t t' : TS} (h : PSs X e t) (i : ∀ D σ H, t' D σ H → t D σ H) : PSs X e t' := ⟨fun pins s σ H D I hq => h.run pins s σ H D I (i D σ H hq)⟩
end Rv

set_option Elab.async false
set_option linter.all false
set_option maxRecDepth 100000
set_option maxHeartbeats 1000000
/-! Rv, part 2: operators, comparisons, subscripts by plain data. -/
namespace Rv
open PySem PySem.Spec PyProof.Rows L2

theorem line_size : line = sizeLine := by rw [sizeLine_eq]
abbrev Ret (K : PySem.W.Frag) (H : Hp) (Q : VK) (z : PyData) : Prop := ∀ v H', Same H H' → At K H' v z → Q v H'
theorem Same.ext' {H H' : Hp} (e : Same H H') : Ext H H' := ⟨fun b o h _ => e b o h, fun b h => Same.free e h⟩
theorem same_new {H : Hp} {p : Addr} {o : HO} (h : H p = none) : Same H (upd H p o) := fun b x e => by rw [upd_ne (ne_of_none e h)]; exact e
/-- a new frozen list -/
theorem new_fz {K : PySem.W.Frag} {H : Hp} {p : Addr} {o : Obj} {xs : List V} {l : List PyData} (h : H p = none) (r : AtL K H xs l) : At K (upd H p (.frz o (.lst xs))) (.ref p) (.list l) :=
  .lst (.inl ⟨o, upd_same⟩) (r.ext (Ext.new h))
/-- a new tuple -/
abbrev tpO (its : List Value) : Obj := { cls := .type "tuple", data := .seq its.toArray }
theorem new_tp {K : PySem.W.Frag} {H : Hp} {p : Addr} {o : Obj} {xs : List V} {l : List PyData} (h : H p = none) (d : o.dict = none) (r : AtL K H xs l) : At K (upd H p (.frz o (.tup xs))) (.ref p) (.tuple l) :=
  .tup ⟨o, upd_same, d⟩ (r.ext (Ext.new h))

section
variable {X : Cx}
/-- a list laid anew is frozen at once -/
theorem lnewF {pins : List (Addr × Obj)} {σ : L2.St} {H : Hp} {s : Shared} {ys : List V} {its : List Value} {t' : Nat} {Q : VK} {l : List PyData} (I : L2.Inv X pins σ H s) (hv : Vals ys its) (hz : ys.length ≤ sizeLine) (r : AtL X.K H ys l) (q : Ret X.K H Q (.list l)) :
    EP X pins σ Q (.ref s.heap.objs.size) { s with heap := s.heap.push { cls := .type "list", data := .seq its.toArray }, toks := t' } := by
  obtain ⟨o, I2⟩ := inv_frz (I.lnew (t' := t') hv hz) upd_same
  rw [upd_upd] at I2
  exact ⟨.ref _, _, I2, rfl, q _ _ (same_new I.fresh) (new_fz I.fresh r)⟩

theorem tnewF {pins : List (Addr × Obj)} {σ : L2.St} {H : Hp} {s : Shared} {ys : List V} {its : List Value} {t' : Nat} {Q : VK} {l : List PyData} (I : L2.Inv X pins σ H s) (hv : Vals ys its) (hz : ys.length ≤ sizeLine) (r : AtL X.K H ys l) (q : Ret X.K H Q (.tuple l)) :
    EP X pins σ Q (.ref s.heap.objs.size) { s with heap := s.heap.push (tpO its), toks := t' } := by
  refine ⟨.ref _, _, I.laid (o := .frz (tpO its) (.tup ys)) (t' := t') (fun _ _ q => Heap.get?_push_of_some _ q) (Nat.le_refl _) ⟨Heap.get?_push_size _ rfl, hz, its, hv, IsTup.new _ _⟩, rfl, q _ _ (same_new I.fresh) (new_tp I.fresh rfl r)⟩

def rBin (K : PySem.W.Frag) (op : Operator) : R2 := fun x y H Q => ∃ dx dy z, Rdy K H x dx ∧ Rdy K H y dy ∧ binD op dx dy = some z ∧ Ret K H Q z
theorem catL {pins : List (Addr × Obj)} {s : Shared} {σ : L2.St} {H : Hp} {a b : Addr} {xs ys : List V} {l m : List PyData} {Q : VK} (I : L2.Inv X pins σ H s) (ha : SqL X.K H a xs) (hb : SqL X.K H b ys) (ra : AtL X.K H xs l) (rb : AtL X.K H ys m)
    (hz : xs.length + ys.length ≤ sizeLine) (q : Ret X.K H Q (.list (l ++ m))) : wpAny (model X.prog X.w) X.A (binaryOp .Add (.ref a) (.ref b)) (EP X pins σ Q) X.xe s := by
  obtain ⟨its, r, ⟨⟨cls, dd, data, sl⟩, n, ho, hc, hdd, hd⟩, _⟩ := I.list ha
  obtain ⟨its2, r2, ⟨⟨cls2, dd2, data2, sl2⟩, n2, ho2, hc2, hdd2, hd2⟩, _⟩ := I.list hb
  simp only at hc hd hc2 hd2
  subst hc hd hc2 hd2
  have e : its.toArray ++ its2.toArray = (its ++ its2).toArray := by simp
  refine concat_meets ⟨_, ho, rfl⟩ ⟨_, ho2, rfl⟩ noFill_list_add seq_list_add PySem.F.slot_list_add PySem.F.entry_list_add (PySem.F.args_list_add_2 _ _)
    (list_addW a b its.toArray its2.toArray n n2 dd dd2 sl sl2 (by rw [List.size_toArray, List.size_toArray, ← r.length, ← r2.length]; exact hz)) ⟨ho, ho2, ?_⟩
  rw [e]
  exact lnewF (t' := s.toks) I (r.append r2) (by rw [List.length_append]; exact hz) (ra.append rb) q
theorem ob_add : OpR X (binaryOp .Add) (rBin X.K .Add) := by
  intro pins s σ H x y v u Q I rx ry h
  obtain ⟨dx, dy, z, hx, hy, e, q⟩ := h
  cases dx <;> cases dy <;> simp only [binD, reduceCtorEq] at e
  case int.int i j =>
    obtain rfl := hx.int
    obtain rfl := hy.int
    cases e
    exact op_add pins s σ H _ _ v u Q I rx ry ⟨i, j, rfl, rfl, q _ H (Same.refl H) (.int _)⟩
  case str.str i j =>
    obtain rfl := hx.str
    obtain rfl := hy.str
    split at e
    · rename_i hl
      cases e
      exact op_add_str pins s σ H _ _ v u Q I rx ry ⟨i, j, rfl, rfl, by rw [← line_size]; exact hl, q _ H (Same.refl H) (.str _)⟩
    · cases e
  case tuple.tuple i j =>
    obtain ⟨a, xs, rfl, sa, ra⟩ := hx.tup
    obtain ⟨b, ys, rfl, sb, rb⟩ := hy.tup
    split at e
    · rename_i hl
      cases e
      cases rx
      cases ry
      obtain ⟨its, r1, p1, _⟩ := I.tuple sa.sq
      obtain ⟨its2, r2, p2, _⟩ := I.tuple sb.sq
      by_cases h0 : xs = []
      · subst h0
        cases ra
        cases r1
        exact cat_tup0 p1 p2 ⟨.ref b, H, I, rfl, q _ H (Same.refl H) (.tup sb rb)⟩
      · refine HT.cat_tup p1 p2 (fun e => h0 ?_) (fun e => ?_) (fun e => ?_) (by rw [← r1.length, ← r2.length, ra.length, rb.length, ← line_size]; exact hl)
        · subst e
          cases r1
          rfl
        · subst e
          cases r2
          cases rb
          rw [List.append_nil] at q
          exact ⟨.ref a, H, I, rfl, q _ H (Same.refl H) (.tup sa ra)⟩
        · exact tnewF (t' := s.toks) I (r1.append r2) (by rw [List.length_append, ra.length, rb.length, ← line_size]; exact hl) (ra.append rb) q
    · cases e
  case list.list i j =>
    obtain ⟨a, xs, rfl, sa, ra⟩ := hx.lst
    obtain ⟨b, ys, rfl, sb, rb⟩ := hy.lst
    split at e
    · rename_i hl
      cases e
      cases rx
      cases ry
      exact catL I sa sb ra rb (by rw [ra.length, rb.length, ← line_size]; exact hl) q
    · cases e
theorem ob_sub : OpR X (binaryOp .Sub) (rBin X.K .Sub) := by
  intro pins s σ H x y v u Q I rx ry h
  obtain ⟨dx, dy, z, hx, hy, e, q⟩ := h
  cases dx <;> cases dy <;> simp only [binD, reduceCtorEq] at e
  case int.int i j =>
    obtain rfl := hx.int
    obtain rfl := hy.int
    cases e
    exact op_sub pins s σ H _ _ v u Q I rx ry ⟨i, j, rfl, rfl, q _ H (Same.refl H) (.int _)⟩
theorem fit_lt {i : Int} (h : fitI i = true) : i.natAbs < 2 ^ 400 := of_decide_eq_true h
theorem ob_mod : OpR X (binaryOp .Mod) (rBin X.K .Mod) := by
  intro pins s σ H x y v u Q I rx ry h
  obtain ⟨dx, dy, z, hx, hy, e, q⟩ := h
  cases dx <;> cases dy <;> simp only [binD, reduceCtorEq] at e
  case int.int i j =>
    obtain rfl := hx.int
    obtain rfl := hy.int
    split at e
    · rename_i hl
      cases e
      exact op_mod pins s σ H _ _ v u Q I rx ry ⟨i, j, rfl, rfl, hl, q _ H (Same.refl H) (.int _)⟩
    · cases e
theorem ob_fdiv : OpR X (binaryOp .FloorDiv) (rBin X.K .FloorDiv) := by
  intro pins s σ H x y v u Q I rx ry h
  obtain ⟨dx, dy, z, hx, hy, e, q⟩ := h
  cases dx <;> cases dy <;> simp only [binD, reduceCtorEq] at e
  case int.int i j =>
    obtain rfl := hx.int
    obtain rfl := hy.int
    split at e
    · rename_i hl
      cases e
      rw [Bool.and_eq_true, decide_eq_true_eq] at hl
      exact op_fdivW pins s σ H _ _ v u Q I rx ry ⟨i, j, rfl, rfl, wide_div (b := 400) hl.1 (fit_lt hl.2) (by decide) (by decide), q _ H (Same.refl H) (.int _)⟩
    · cases e
theorem ob_pow : OpR X (binaryOp .Pow) (rBin X.K .Pow) := by
  intro pins s σ H x y v u Q I rx ry h
  obtain ⟨dx, dy, z, hx, hy, e, q⟩ := h
  cases dx <;> cases dy <;> simp only [binD, reduceCtorEq] at e
  case int.int i j =>
    obtain rfl := hx.int
    obtain rfl := hy.int
    split at e
    · rename_i hl
      cases e
      exact op_pow pins s σ H _ _ v u Q I rx ry ⟨i, j, rfl, rfl, ⟨hl.1, by omega, hl.2.2⟩, q _ H (Same.refl H) (.int _)⟩
    · cases e
theorem tuple_mul1 (l : Addr) (items : Array Value) (n : Nat) (dd : Option Addr) (sl : Array (Option Value)) (u : Tok) :
    Meets (Builtin.«tuple.__mul__» ⟨[.ref l, .int 1 u], []⟩) (fun _ R s => s.heap.get? l = some { cls := .type "tuple", dict := dd, data := .seq items n, slots := sl } ∧ R (.ok (.ret (Value.ref l))) s) :=
  .of_wp fun prog w A R s h => by
    obtain ⟨hp, g, d, tk, os⟩ := s
    obtain ⟨hl, h⟩ := h
    have f1 := AutoSeq1.idx_int
    wp_walk using wpAny_loadPart' hl
    repeat (first
      | (refine wpAny_ite_false (decide_eq_false (by decide)) ?_; wp_walk using wpAny_loadPart' hl)
      | (refine wpAny_ite_true (decide_eq_true (by rw [Bool.or_eq_true]; exact .inr (by decide))) ?_; wp_walk using wpAny_loadPart' hl))
    exact ⟨_, rfl, h⟩
theorem repT1 {pins : List (Addr × Obj)} {s : Shared} {σ : L2.St} {H : Hp} {a : Addr} {t : Tok} {xs : List V} {Q : VK} (I : L2.Inv X pins σ H s) (ha : SqT X.K H a xs) (q : Q (.ref a) H) :
    wpAny (model X.prog X.w) X.A (binaryOp .Mult (.ref a) (.int 1 t)) (EP X pins σ Q) X.xe s := by
  obtain ⟨its, r, ⟨⟨cls, dd, data, sl⟩, ho, hc, n, hd⟩, hs⟩ := I.tuple ha
  simp only at hc hd
  subst hc hd
  refine wpAny_binaryOp_repeat_ref (T := "tuple") (U := "int") (by decide) ⟨_, ho, rfl⟩ (fun s' => typeIs_int s' 1 t) noFill_tuple_mul F.fills_int_mul F.slot_int_rmul repeat_tuple F.slot_int_index.lookup
    (call_meets F.slot_int_rmul (typeIs_int s 1 t) F.entry_int_rmul (F.args_int_rmul_2 _ _) (int_rmul_tuple 1 t a its.toArray n dd sl)
      ⟨ho, rfl, ⟨_, ho, rfl⟩, call_meets F.slot_tuple_mul ⟨_, ho, rfl⟩ F.entry_tuple_mul (F.args_tuple_mul_2 _ _) (tuple_mul1 a its.toArray n dd sl t) ⟨ho, ?_⟩⟩)
  exact ⟨.ref a, H, I, rfl, q⟩
theorem repT {pins : List (Addr × Obj)} {s : Shared} {σ : L2.St} {H : Hp} {a : Addr} {k : Int} {t : Tok} {xs : List V} {l : List PyData} {Q : VK} (I : L2.Inv X pins σ H s) (ha : SqT X.K H a xs) (ra : AtL X.K H xs l) (hne : xs ≠ []) (h1 : 2 ≤ k) (h2 : k ≤ 1000) (hx : xs.length ≤ 1000)
    (q : Ret X.K H Q (.tuple (List.replicate k.toNat l).flatten)) : wpAny (model X.prog X.w) X.A (binaryOp .Mult (.ref a) (.int k t)) (EP X pins σ Q) X.xe s := by
  obtain ⟨its, r, ⟨⟨cls, dd, data, sl⟩, ho, hc, n, hd⟩, hs⟩ := I.tuple ha
  simp only at hc hd
  subst hc hd
  have hle : its.length = xs.length := r.length.symm
  have hi : its.toArray.isEmpty = false := by
    cases its with
    | nil => exact absurd (List.eq_nil_of_length_eq_zero hle.symm) hne
    | cons a b => rfl
  have hm : ((its.toArray.size : Nat) : Int) * k ≤ 1000000 := by
    rw [List.size_toArray, hle]
    have a1 : ((xs.length : Nat) : Int) * k ≤ 1000 * k := Int.mul_le_mul_of_nonneg_right (by omega) (by omega)
    omega
  have a2 : k.toNat * xs.length ≤ 1000 * 1000 := Nat.mul_le_mul (by omega) hx
  have flen : (List.replicate k.toNat its).flatten.length ≤ sizeLine := by
    rw [PyProof.Rows.lm_len_rep_flat, hle, sizeLine_eq]
    omega
  have c0 : (decide (k < -(2 ^ 63)) || decide (k ≥ 2 ^ 63)) = false := by
    rw [decide_eq_false (by omega), decide_eq_false (by omega)] <;> rfl
  have c1 : (its.toArray.isEmpty || k == 1) = false := by
    rw [hi, Bool.false_or]
    exact beq_eq_false_iff_ne.mpr (by omega)
  have c2 : (decide (k ≤ 0) || its.toArray.isEmpty) = false := by
    rw [hi, Bool.or_false]
    exact decide_eq_false (by omega)
  have c4 : Builtin.Tuple.tupleTooMany (((its.toArray.size : Nat) : Int) * k) = false := by
    unfold Builtin.Tuple.tupleTooMany
    rw [sizeLine_eq]
    exact decide_eq_false (by omega)
  refine wpAny_binaryOp_repeat_ref (T := "tuple") (U := "int") (by decide) ⟨_, ho, rfl⟩ (fun s' => typeIs_int s' k t) noFill_tuple_mul F.fills_int_mul F.slot_int_rmul repeat_tuple F.slot_int_index.lookup
    (call_meets F.slot_int_rmul (typeIs_int s k t) F.entry_int_rmul (F.args_int_rmul_2 _ _) (int_rmul_tuple k t a its.toArray n dd sl)
      ⟨ho, rfl, ⟨_, ho, rfl⟩, call_meets F.slot_tuple_mul ⟨_, ho, rfl⟩ F.entry_tuple_mul (F.args_tuple_mul_2 _ _) (tuple_mulW a its.toArray n dd sl k t c0 c1 c2 (by omega) c4 (by rw [size_rep, List.size_toArray]; exact flen)) ⟨ho, ?_⟩⟩)
  rw [size_rep]
  refine tnewF (t' := s.toks) I (r.rep k.toNat) ?_ (ra.rep k.toNat) q
  rw [PyProof.Rows.lm_len_rep_flat, sizeLine_eq]
  omega
theorem repL {pins : List (Addr × Obj)} {s : Shared} {σ : L2.St} {H : Hp} {a : Addr} {k : Int} {t : Tok} {xs : List V} {l : List PyData} {Q : VK} (I : L2.Inv X pins σ H s) (ha : SqL X.K H a xs) (ra : AtL X.K H xs l) (hk : k < 1000) (hx : xs.length ≤ 1000) (hlo : -(2 ^ 63 : Int) ≤ k)
    (q : Ret X.K H Q (.list (List.replicate k.toNat l).flatten)) : wpAny (model X.prog X.w) X.A (binaryOp .Mult (.ref a) (.int k t)) (EP X pins σ Q) X.xe s := by
  obtain ⟨its, r, ⟨⟨cls, dd, data, sl⟩, n, ho, hc, hdd, hd⟩, _⟩ := I.list ha
  simp only at hc hd
  subst hc hd
  have hle : its.length = xs.length := r.length.symm
  have hm : its.length * k.toNat ≤ 1000 * 1000 := Nat.mul_le_mul (by omega) (by omega)
  have hsz' : its.toArray.size * k.toNat ≤ 2 ^ 24 := by rw [List.size_toArray]; omega
  refine wpAny_binaryOp_repeat_ref (T := "list") (U := "int") (by decide) ⟨_, ho, rfl⟩ (fun s' => typeIs_int s' k t) noFill_list_mul F.fills_int_mul F.slot_int_rmul repeat_list F.slot_int_index.lookup
    (call_meets F.slot_int_rmul (typeIs_int s k t) F.entry_int_rmul (F.args_int_rmul_2 _ _) (lm_int_rmul_list_any k t a its.toArray n dd sl)
      ⟨ho, rfl, ⟨_, ho, rfl⟩, call_meets F.slot_list_mul ⟨_, ho, rfl⟩ F.entry_list_mul (F.args_list_mul_2 _ _)
        (lm_list_mul_any a its.toArray n dd sl k t (by simp [Builtin.List.listFitsIndex]; omega) (by omega) (by simp [Builtin.List.listTooLong, sizeLine]; omega))
        ⟨ho, ?_⟩⟩)
  rw [listMul_foldl_if]
  refine lnewF (t' := s.toks) I (r.rep k.toNat) ?_ (ra.rep k.toNat) q
  rw [PyProof.Rows.lm_len_rep_flat, sizeLine_eq]
  have a1 : k.toNat * xs.length ≤ 1000 * 1000 := Nat.mul_le_mul (by omega) hx
  omega
theorem ob_mult : OpR X (binaryOp .Mult) (rBin X.K .Mult) := by
  intro pins s σ H x y v u Q I rx ry h
  obtain ⟨dx, dy, z, hx, hy, e, q⟩ := h
  cases dx <;> cases dy <;> simp only [binD, reduceCtorEq] at e
  case int.int i j =>
    obtain rfl := hx.int
    obtain rfl := hy.int
    split at e
    · rename_i hl
      cases e
      rw [Bool.and_eq_true] at hl
      exact op_mulW pins s σ H _ _ v u Q I rx ry ⟨i, j, rfl, rfl, wide_mul (a := 400) (b := 400) (fit_lt hl.1) (fit_lt hl.2) (by decide) (by decide) (by decide), q _ H (Same.refl H) (.int _)⟩
    · cases e
  case list.int i j =>
    obtain ⟨a, xs, rfl, sa, ra⟩ := hx.lst
    obtain rfl := hy.int
    split at e
    · rename_i hl
      cases e
      cases rx
      obtain ⟨t, rfl⟩ := ry
      exact repL I sa ra hl.2.1 (by rw [ra.length]; exact hl.2.2) hl.1 q
    · cases e
  case tuple.int i j =>
    obtain ⟨a, xs, rfl, sa, ra⟩ := hx.tup
    obtain rfl := hy.int
    split at e
    · rename_i hl
      cases e
      by_cases h1 : j = 1
      · subst h1
        cases rx
        obtain ⟨t, rfl⟩ := ry
        refine repT1 I sa.sq (q _ H (Same.refl H) ?_)
        have e1 : (List.replicate (1 : Int).toNat i).flatten = i := by simp
        rw [e1]
        exact .tup sa ra
      · cases rx
        obtain ⟨t, rfl⟩ := ry
        exact repT I sa.sq ra (fun e => by subst e; cases ra; exact hl.2.2.2 rfl) (by omega) hl.2.1 (by rw [ra.length]; exact hl.2.2.1) q
    · cases e
theorem ob : ∀ op : Operator, OpR X (binaryOp op) (rBin X.K op)
  | .Add => ob_add
  | .Sub => ob_sub
  | .Mult => ob_mult
  | .Mod => ob_mod
  | .FloorDiv => ob_fdiv
  | .Pow => ob_pow
  | .MatMult | .Div | .LShift | .RShift | .BitOr | .BitXor | .BitAnd => by
    intro pins s σ H x y v u Q I rx ry h
    obtain ⟨dx, dy, z, hx, hy, e, q⟩ := h
    simp only [binD, reduceCtorEq] at e
end
end Rv

set_option Elab.async false
set_option linter.all false
set_option maxRecDepth 100000
set_option maxHeartbeats 1000000
/-! Rv, part 3: comparisons, subscripts, slices. -/
namespace Rv
open PySem PySem.Spec PyProof.Rows L2
section
variable {X : Cx}
def rCmp (K : PySem.W.Frag) (op : CmpOp) : R2 := fun x y H Q => ∃ dx dy b, Rdy K H x dx ∧ Rdy K H y dy ∧ cmpD op dx dy = some b ∧ Q (.bl b) H
theorem Rdy.isNone {K : PySem.W.Frag} {H : Hp} {v : V} {d : PyData} (h : Rdy K H v d) : decide (v = V.non) = isNone d := by
  cases d with
  | none => rw [h.non]; rfl
  | bool b => rw [h.bl]; rfl
  | int b => rw [h.int]; rfl
  | str b => rw [h.str]; rfl
  | list l => obtain ⟨a, xs, rfl, _⟩ := h.lst; rfl
  | tuple l => obtain ⟨a, xs, rfl, _⟩ := h.tup; rfl
  | dict l => exact h.nodict.elim
theorem oc_lt : OpR X (compareOp .Lt) (rCmp X.K .Lt) := by
  intro pins s σ H x y v u Q I rx ry h
  obtain ⟨dx, dy, b, hx, hy, e, q⟩ := h
  cases dx <;> cases dy <;> simp only [cmpD, reduceCtorEq] at e
  case int.int i j =>
    obtain rfl := hx.int
    obtain rfl := hy.int
    cases e
    exact op_lt pins s σ H _ _ v u Q I rx ry ⟨i, j, rfl, rfl, q⟩
  case str.str i j =>
    obtain rfl := hx.str
    obtain rfl := hy.str
    cases e
    exact op_lt_str pins s σ H _ _ v u Q I rx ry ⟨i, j, rfl, rfl, q⟩
theorem oc_le : OpR X (compareOp .LtE) (rCmp X.K .LtE) := by
  intro pins s σ H x y v u Q I rx ry h
  obtain ⟨dx, dy, b, hx, hy, e, q⟩ := h
  cases dx <;> cases dy <;> simp only [cmpD, reduceCtorEq] at e
  case int.int i j =>
    obtain rfl := hx.int
    obtain rfl := hy.int
    cases e
    exact op_le pins s σ H _ _ v u Q I rx ry ⟨i, j, rfl, rfl, q⟩
theorem oc_gt : OpR X (compareOp .Gt) (rCmp X.K .Gt) := by
  intro pins s σ H x y v u Q I rx ry h
  obtain ⟨dx, dy, b, hx, hy, e, q⟩ := h
  cases dx <;> cases dy <;> simp only [cmpD, reduceCtorEq] at e
  case int.int i j =>
    obtain rfl := hx.int
    obtain rfl := hy.int
    cases e
    exact op_gt pins s σ H _ _ v u Q I rx ry ⟨i, j, rfl, rfl, q⟩
theorem oc_ge : OpR X (compareOp .GtE) (rCmp X.K .GtE) := by
  intro pins s σ H x y v u Q I rx ry h
  obtain ⟨dx, dy, b, hx, hy, e, q⟩ := h
  cases dx <;> cases dy <;> simp only [cmpD, reduceCtorEq] at e
  case int.int i j =>
    obtain rfl := hx.int
    obtain rfl := hy.int
    cases e
    exact op_ge pins s σ H _ _ v u Q I rx ry ⟨i, j, rfl, rfl, q⟩
theorem oc_is : OpR X (compareOp .Is) (rCmp X.K .Is) := by
  intro pins s σ H x y v u Q I rx ry h
  obtain ⟨dx, dy, b, hx, hy, e, q⟩ := h
  cases dy with
  | none =>
    obtain rfl := hy.non
    have e' : cmpD .Is dx .none = some (isNone dx) := by cases dx <;> rfl
    rw [e'] at e
    cases e
    exact op_isN pins s σ H _ _ v u Q I rx ry ⟨rfl, by rw [hx.isNone]; exact q⟩
  | bool j =>
    cases dx <;> simp only [cmpD, reduceCtorEq] at e
    case bool i =>
      obtain rfl := hx.bl
      obtain rfl := hy.bl
      cases e
      exact op_isBl pins s σ H _ _ v u Q I rx ry ⟨i, j, rfl, rfl, q⟩
  | int j => cases dx <;> simp only [cmpD, reduceCtorEq] at e
  | str j => cases dx <;> simp only [cmpD, reduceCtorEq] at e
  | list j => cases dx <;> simp only [cmpD, reduceCtorEq] at e
  | tuple j => cases dx <;> simp only [cmpD, reduceCtorEq] at e
  | dict j => cases dx <;> simp only [cmpD, reduceCtorEq] at e
theorem oc_isnot : OpR X (compareOp .IsNot) (rCmp X.K .IsNot) := by
  intro pins s σ H x y v u Q I rx ry h
  obtain ⟨dx, dy, b, hx, hy, e, q⟩ := h
  cases dy with
  | none =>
    obtain rfl := hy.non
    have e' : cmpD .IsNot dx .none = some (!isNone dx) := by cases dx <;> rfl
    rw [e'] at e
    cases e
    exact op_notN pins s σ H _ _ v u Q I rx ry ⟨rfl, by rw [hx.isNone]; exact q⟩
  | bool j =>
    cases dx <;> simp only [cmpD, reduceCtorEq] at e
    case bool i =>
      obtain rfl := hx.bl
      obtain rfl := hy.bl
      cases e
      exact op_notBl pins s σ H _ _ v u Q I rx ry ⟨i, j, rfl, rfl, q⟩
  | int j => cases dx <;> simp only [cmpD, reduceCtorEq] at e
  | str j => cases dx <;> simp only [cmpD, reduceCtorEq] at e
  | list j => cases dx <;> simp only [cmpD, reduceCtorEq] at e
  | tuple j => cases dx <;> simp only [cmpD, reduceCtorEq] at e
  | dict j => cases dx <;> simp only [cmpD, reduceCtorEq] at e
/-- one sign -/
theorem one_sign {x : Str} (h : (txt x).length = 1) : x = ⟨#[(txt x).getD 0 0]⟩ := by
  obtain ⟨⟨l⟩⟩ := x
  simp only [txt] at h
  match l, h with
  | [c], _ => rfl
theorem flat_eqV {K : PySem.W.Frag} {H : Hp} {v w : V} {d e : PyData} (hv : Rdy K H v d) (hw : Rdy K H w e) (fd : flat d = true) (fe : flat e = true) : eqV v w = PyData.eqv d e := by
  cases d <;> simp only [flat, Bool.false_eq_true] at fd <;> cases e <;> simp only [flat, Bool.false_eq_true] at fe <;>
    (first | rw [hv.non] | rw [hv.bl] | rw [hv.int] | rw [hv.str]) <;> (first | rw [hw.non] | rw [hw.bl] | rw [hw.int] | rw [hw.str]) <;> simp only [eqV, PyData.eqv]
theorem flat_flatV {K : PySem.W.Frag} {H : Hp} {v : V} {d : PyData} (hv : Rdy K H v d) (fd : flat d = true) : flatV v = true := by
  cases d <;> simp only [flat, Bool.false_eq_true] at fd <;> (first | rw [hv.non] | rw [hv.bl] | rw [hv.int] | rw [hv.str]) <;> rfl
theorem flat_all {K : PySem.W.Frag} {H : Hp} : ∀ {vs : List V} {ds : List PyData}, AtL K H vs ds → ds.all flat = true → vs.all flatV = true
  | _, _, .nil, _ => rfl
  | _, _, .cons a b, h => by
    rw [List.all_cons, Bool.and_eq_true] at h ⊢
    exact ⟨flat_flatV (.inl a) h.1, flat_all b h.2⟩
theorem flat_in {K : PySem.W.Frag} {H : Hp} {v : V} {d : PyData} (hv : Rdy K H v d) (fd : flat d = true) : ∀ {vs : List V} {ds : List PyData}, AtL K H vs ds → ds.all flat = true → inV v vs = ds.any fun y => PyData.eqv y d
  | _, _, .nil, _ => rfl
  | _, _, .cons a b, h => by
    rw [List.all_cons, Bool.and_eq_true] at h
    have := flat_in hv fd b h.2
    unfold inV at this ⊢
    rw [List.any_cons, List.any_cons, this, flat_eqV (.inl a) hv h.1 fd]
theorem oc_in (hu : X.A.units + 65 < cLine) : OpR X (compareOp .In) (rCmp X.K .In) := by
  intro pins s σ H x y v u Q I rx ry h
  obtain ⟨dx, dy, b, hx, hy, e, q⟩ := h
  cases dy with
  | str j =>
    cases dx <;> simp only [cmpD, reduceCtorEq] at e
    case str i =>
      obtain rfl := hx.str
      obtain rfl := hy.str
      split at e
      · rename_i hl
        cases e
        exact op_in_sign pins s σ H _ _ v u Q I rx ry ⟨_, j, congrArg V.str (one_sign hl), rfl, q⟩
      · cases e
  | tuple l =>
    have e' : cmpD .In dx (.tuple l) = if flat dx && l.all flat then some (l.any fun y => PyData.eqv y dx) else none := by cases dx <;> rfl
    rw [e'] at e
    split at e
    · rename_i hl
      cases e
      rw [Bool.and_eq_true] at hl
      obtain ⟨a, xs, rfl, sa, ra⟩ := hy.tup
      exact op_in_seq pins s σ H _ _ v u Q I rx ry ⟨a, xs, rfl, .inr sa.sq, flat_flatV hx hl.1, flat_all ra hl.2, by rw [if_neg Bool.false_ne_true, flat_in hx hl.1 ra hl.2]; exact q⟩
    · cases e
  | list l =>
    have e' : cmpD .In dx (.list l) = if SeqAt.shaped dx && SeqAt.shaped (.list l) then some (l.any fun y => PyData.eqv y dx) else none := by cases dx <;> rfl
    rw [e'] at e
    split at e
    · rename_i hl
      cases e
      rw [Bool.and_eq_true] at hl
      exact op_inD hu pins s σ H _ _ v u Q I rx ry ⟨dx, l, hx.dp, hy.dp, hl.1, hl.2, q⟩
    · cases e
  | none => cases dx <;> simp only [cmpD, reduceCtorEq] at e
  | bool j => cases dx <;> simp only [cmpD, reduceCtorEq] at e
  | int j => cases dx <;> simp only [cmpD, reduceCtorEq] at e
  | dict j => cases dx <;> simp only [cmpD, reduceCtorEq] at e
theorem oc_notin (hu : X.A.units + 65 < cLine) : OpR X (compareOp .NotIn) (rCmp X.K .NotIn) := by
  intro pins s σ H x y v u Q I rx ry h
  obtain ⟨dx, dy, b, hx, hy, e, q⟩ := h
  cases dy with
  | str j =>
    cases dx <;> simp only [cmpD, reduceCtorEq] at e
    case str i =>
      obtain rfl := hx.str
      obtain rfl := hy.str
      split at e
      · rename_i hl
        cases e
        exact op_notIn_sign pins s σ H _ _ v u Q I rx ry ⟨_, j, congrArg V.str (one_sign hl), rfl, q⟩
      · cases e
  | tuple l =>
    have e' : cmpD .NotIn dx (.tuple l) = if flat dx && l.all flat then some (!l.any fun y => PyData.eqv y dx) else none := by cases dx <;> rfl
    rw [e'] at e
    split at e
    · rename_i hl
      cases e
      rw [Bool.and_eq_true] at hl
      obtain ⟨a, xs, rfl, sa, ra⟩ := hy.tup
      exact op_notIn_seq pins s σ H _ _ v u Q I rx ry ⟨a, xs, rfl, .inr sa.sq, flat_flatV hx hl.1, flat_all ra hl.2, by rw [if_pos rfl, flat_in hx hl.1 ra hl.2]; exact q⟩
    · cases e
  | list l =>
    have e' : cmpD .NotIn dx (.list l) = if SeqAt.shaped dx && SeqAt.shaped (.list l) then some (!l.any fun y => PyData.eqv y dx) else none := by cases dx <;> rfl
    rw [e'] at e
    split at e
    · rename_i hl
      cases e
      rw [Bool.and_eq_true] at hl
      exact op_notInD hu pins s σ H _ _ v u Q I rx ry ⟨dx, l, hx.dp, hy.dp, hl.1, hl.2, q⟩
    · cases e
  | none => cases dx <;> simp only [cmpD, reduceCtorEq] at e
  | bool j => cases dx <;> simp only [cmpD, reduceCtorEq] at e
  | int j => cases dx <;> simp only [cmpD, reduceCtorEq] at e
  | dict j => cases dx <;> simp only [cmpD, reduceCtorEq] at e
theorem eqOk_or {x y : PyData} (h : eqOk x y = true) : (∃ i j, x = .str i ∧ y = .str j) ∨ (SeqAt.shaped x = true ∧ SeqAt.shaped y = true) := by
  have key : (∀ i j, x = .str i → y = .str j → False) → eqOk x y = (SeqAt.shaped x && SeqAt.shaped y) := fun n => by
    unfold eqOk
    split
    · exact (n _ _ rfl rfl).elim
    · rfl
  by_cases n : ∃ i j, x = .str i ∧ y = .str j
  · exact .inl n
  · rw [key fun i j a b => n ⟨i, j, a, b⟩, Bool.and_eq_true] at h
    exact .inr h
theorem str_eqv (i j : Str) : PyData.eqv (.str i) (.str j) = decide (V.str i = V.str j) := by
  simp only [PyData.eqv]
  by_cases h : i = j
  · subst h; simp
  · rw [decide_eq_false (fun e => h (V.str.inj e)), beq_eq_false_iff_ne.mpr h]
theorem oc_eq (hu : X.A.units + 65 < cLine) : OpR X (compareOp .Eq) (rCmp X.K .Eq) := by
  intro pins s σ H x y v u Q I rx ry h
  obtain ⟨dx, dy, b, hx, hy, e, q⟩ := h
  have e' : cmpD .Eq dx dy = if eqOk dx dy then some (PyData.eqv dx dy) else none := by cases dx <;> cases dy <;> rfl
  rw [e'] at e
  split at e
  · rename_i hl
    cases e
    rcases eqOk_or hl with ⟨i, j, rfl, rfl⟩ | hl
    · obtain rfl := hx.str
      obtain rfl := hy.str
      refine op_eq pins s σ H _ _ v u Q I rx ry ⟨rfl, ?_⟩
      rw [str_eqv] at q
      exact q
    · exact op_eqD (by omega) pins s σ H _ _ v u Q I rx ry ⟨dx, dy, hx.dp, hy.dp, hl.1, hl.2, q⟩
  · cases e
theorem oc_ne (hu : X.A.units + 65 < cLine) : OpR X (compareOp .NotEq) (rCmp X.K .NotEq) := by
  intro pins s σ H x y v u Q I rx ry h
  obtain ⟨dx, dy, b, hx, hy, e, q⟩ := h
  have e' : cmpD .NotEq dx dy = if eqOk dx dy then some (!PyData.eqv dx dy) else none := by cases dx <;> cases dy <;> rfl
  rw [e'] at e
  split at e
  · rename_i hl
    cases e
    rcases eqOk_or hl with ⟨i, j, rfl, rfl⟩ | hl
    · obtain rfl := hx.str
      obtain rfl := hy.str
      refine op_ne pins s σ H _ _ v u Q I rx ry ⟨rfl, ?_⟩
      rw [str_eqv] at q
      exact q
    · exact op_neD (by omega) pins s σ H _ _ v u Q I rx ry ⟨dx, dy, hx.dp, hy.dp, hl.1, hl.2, q⟩
  · cases e
theorem oc (hu : X.A.units + 65 < cLine) : ∀ op : CmpOp, OpR X (compareOp op) (rCmp X.K op)
  | .Eq => oc_eq hu
  | .NotEq => oc_ne hu
  | .Lt => oc_lt
  | .LtE => oc_le
  | .Gt => oc_gt
  | .GtE => oc_ge
  | .Is => oc_is
  | .IsNot => oc_isnot
  | .In => oc_in hu
  | .NotIn => oc_notin hu

/-! ### subscripts -/
def rIdx (K : PySem.W.Frag) : R2 := fun x y H Q => ∃ dx dy z, Rdy K H x dx ∧ Rdy K H y dy ∧ idxD dx dy = some z ∧ Ret K H Q z
theorem atI_rel {K : PySem.W.Frag} {H : Hp} {vs : List V} {ds : List PyData} {i : Int} {d : PyData} (r : AtL K H vs ds) (h : atI ds i = some d) : ∃ v, atI vs i = some v ∧ At K H v d := by
  unfold atI at h ⊢
  rw [r.length]
  cases e : ixN ds.length i with
  | none => rw [e] at h; cases h
  | some j =>
    rw [e] at h
    exact r.get h
theorem oi : IxR X (rIdx X.K) := by
  intro value slice pins s σ H x y v u Q I rx ry h hs
  obtain ⟨dx, dy, z, hx, hy, e, q⟩ := h
  cases dx <;> cases dy <;> simp only [idxD, reduceCtorEq] at e
  case list.int l i =>
    obtain ⟨a, xs, rfl, sa, ra⟩ := hx.lst
    obtain rfl := hy.int
    obtain ⟨w, h1, h2⟩ := atI_rel ra e
    exact ix_list value slice pins s σ H _ _ v u Q I rx ry ⟨a, xs, i, w, rfl, rfl, sa, h1, q _ H (Same.refl H) h2⟩ hs
  case tuple.int l i =>
    obtain ⟨a, xs, rfl, sa, ra⟩ := hx.tup
    obtain rfl := hy.int
    obtain ⟨w, h1, h2⟩ := atI_rel ra e
    exact ix_tup value slice pins s σ H _ _ v u Q I rx ry ⟨a, xs, i, w, rfl, rfl, sa.sq, h1, q _ H (Same.refl H) h2⟩ hs
  case str.int l i =>
    obtain rfl := hx.str
    obtain rfl := hy.int
    split at e
    · rename_i hl
      obtain ⟨c, h1, rfl⟩ := Option.map_eq_some_iff.mp e
      exact ix_str value slice pins s σ H _ _ v u Q I rx ry ⟨l, i, c, rfl, rfl, by rw [← line_size]; exact hl, h1, q _ H (Same.refl H) (.str _)⟩ hs
    · cases e
def rSlc (K : PySem.W.Frag) : V → Option Int → Option Int → Hp → VK → Prop := fun x lo hi H Q => ∃ dx z, Rdy K H x dx ∧ sliceD dx lo hi = some z ∧ Ret K H Q z
theorem cut_rel {K : PySem.W.Frag} {H : Hp} {vs : List V} {ds : List PyData} (r : AtL K H vs ds) (lo hi : Option Int) : AtL K H (cutV vs lo hi) (cutD ds lo hi) := by
  unfold cutV cutD
  rw [r.length]
  exact (r.drop _).take _
theorem cut_whole {α : Type} (l : List α) (lo hi : Option Int) (h1 : HT.sIx l.length 0 lo = 0) (h2 : HT.sIx l.length l.length hi = l.length) : cutD l lo hi = l := by
  unfold cutD
  rw [h1, h2]
  simp
/-- a slice rule whose new list is frozen -/
theorem sl_frz {r : V → Option Int → Option Int → Hp → VK → Prop} (hr : SlR X r) : SlR X (fun x lo hi H Q => r x lo hi H fun v H1 => ∃ a xs, v = .ref a ∧ H1 a = some (.lst xs) ∧ ∀ o, Q v (upd H1 a (.frz o (.lst xs)))) := by
  intro pins s σ H x v vl vu lo hi sl Q I rx hs pl pu h
  obtain ⟨T, id, h1, h2, h3⟩ := hr pins s σ H x v vl vu lo hi sl _ I rx hs pl pu h
  refine ⟨T, id, h1, h2, thn h3 fun u s1 ⟨v, H1, I1, r, a, xs, e1, e2, q⟩ => ?_⟩
  obtain ⟨o, I2⟩ := inv_frz I1 e2
  exact ⟨v, _, I2, r, q o⟩
theorem os : SlR X (rSlc X.K) := by
  intro pins s σ H x v vl vu lo hi sl Q I rx hs pl pu h
  obtain ⟨dx, z, hx, e, q⟩ := h
  cases dx <;> simp only [sliceD, reduceCtorEq] at e
  case list l =>
    obtain ⟨a, xs, rfl, sa, ra⟩ := hx.lst
    cases e
    refine sl_frz sl_list pins s σ H _ v vl vu lo hi sl Q I rx hs pl pu ⟨a, xs, rfl, sa, fun p hp => ⟨p, _, rfl, upd_same, fun o => ?_⟩⟩
    rw [upd_upd]
    exact q _ _ (same_new hp) (new_fz hp (cut_rel ra lo hi))
  case tuple l =>
    obtain ⟨a, xs, rfl, sa, ra⟩ := hx.tup
    cases e
    cases rx
    obtain ⟨its, r, ht, hz⟩ := I.tuple sa.sq
    have hlen : its.toArray.size = xs.length := by rw [List.size_toArray]; exact r.length.symm
    refine ⟨"tuple", _, PyProof.Rows.slot_tuple_getitem.lookup, ht.typeIs, ?_⟩
    by_cases hw : HT.sIx xs.length 0 lo = 0 ∧ HT.sIx xs.length xs.length hi = xs.length
    · refine getItem_tuple_whole ht hs pl pu (by rw [hlen]; exact hw) ⟨.ref a, H, I, rfl, ?_⟩
      rw [ra.length] at hw
      rw [cut_whole l lo hi hw.1 hw.2] at q
      exact q _ H (Same.refl H) (.tup sa ra)
    · refine HT.getItem_tuple_cut ht hs pl pu (by rw [hlen]; exact hw) ?_ (by rw [hlen]; exact hz)
      rw [hlen]
      exact tnewF (t' := s.toks) I ((r.drop (HT.sIx xs.length 0 lo)).take (HT.sIx xs.length xs.length hi - HT.sIx xs.length 0 lo)) (Nat.le_trans (cutV_length xs lo hi) hz) (cut_rel ra lo hi) q
  case str l =>
    obtain rfl := hx.str
    split at e
    · rename_i hl
      cases e
      exact sl_str pins s σ H _ v vl vu lo hi sl Q I rx hs pl pu ⟨l, rfl, by rw [← line_size]; exact hl, q _ H (Same.refl H) (.str _)⟩
    · cases e
end
end Rv

set_option Elab.async false
set_option linter.all false
set_option maxRecDepth 100000
set_option maxHeartbeats 1000000
/-! Rv, part 4: built-ins and methods by plain data. -/
namespace Rv
open PySem PySem.Spec PyProof.Rows L2
def RdyL (K : PySem.W.Frag) (H : Hp) : List V → List PyData → Prop := Paired fun v d => Rdy K H v d
section
variable {X : Cx}
def rCal (K : PySem.W.Frag) (g : List PyData → Option PyData) : List V → Hp → VK → Prop := fun vs H Q => ∃ ds z, RdyL K H vs ds ∧ g ds = some z ∧ Ret K H Q z
theorem RdyL.one {K : PySem.W.Frag} {H : Hp} {vs : List V} {d : PyData} (h : RdyL K H vs [d]) : ∃ v, vs = [v] ∧ Rdy K H v d := by
  cases h with | cons a b => cases b; exact ⟨_, rfl, a⟩
theorem RdyL.two {K : PySem.W.Frag} {H : Hp} {vs : List V} {d e : PyData} (h : RdyL K H vs [d, e]) : ∃ v w, vs = [v, w] ∧ Rdy K H v d ∧ Rdy K H w e := by
  cases h with | cons a b => cases b with | cons c f => cases f; exact ⟨_, _, rfl, a, c⟩
/-- a call rule whose new list is frozen -/
theorem call_frz {f : Value} {r : List V → Hp → VK → Prop} (hr : CallR X f r) : CallR X f (fun vs H Q => r vs H fun v H1 => ∃ a xs, v = .ref a ∧ H1 a = some (.lst xs) ∧ ∀ o, Q v (upd H1 a (.frz o (.lst xs)))) := by
  intro pins s σ H vs us Q I rv h
  refine thn (hr pins s σ H vs us _ I rv h) fun u s1 ⟨v, H1, I1, r, a, xs, e1, e2, q⟩ => ?_
  obtain ⟨o, I2⟩ := inv_frz I1 e2
  exact ⟨v, _, I2, r, q o⟩
theorem bf_len : CallR X (.builtin "len") (rCal X.K lenD) := by
  intro pins s σ H vs us Q I rv h
  obtain ⟨ds, z, hv, e, q⟩ := h
  unfold lenD at e
  split at e
  · rename_i l
    obtain ⟨v, rfl, h1⟩ := hv.one
    obtain ⟨a, xs, rfl, sa, ra⟩ := h1.lst
    cases e
    exact call_len_seq pins s σ H _ us Q I rv ⟨a, xs, rfl, .inl sa, by rw [ra.length]; exact q _ H (Same.refl H) (.int _)⟩
  · rename_i l
    obtain ⟨v, rfl, h1⟩ := hv.one
    obtain ⟨a, xs, rfl, sa, ra⟩ := h1.tup
    cases e
    exact call_len_seq pins s σ H _ us Q I rv ⟨a, xs, rfl, .inr sa.sq, by rw [ra.length]; exact q _ H (Same.refl H) (.int _)⟩
  · rename_i l
    obtain ⟨v, rfl, h1⟩ := hv.one
    obtain rfl := h1.str
    split at e
    · rename_i hl
      cases e
      exact call_len_str pins s σ H _ us Q I rv ⟨l, rfl, by rw [← line_size]; exact hl, q _ H (Same.refl H) (.int _)⟩
    · cases e
  · cases e
theorem bf_int : CallR X (.type "int") (rCal X.K intD) := by
  intro pins s σ H vs us Q I rv h
  obtain ⟨ds, z, hv, e, q⟩ := h
  unfold intD at e
  split at e
  · rename_i l
    obtain ⟨v, rfl, h1⟩ := hv.one
    obtain rfl := h1.int
    cases e
    exact call_int1 pins s σ H _ us Q I rv (.inl ⟨l, rfl, q _ H (Same.refl H) (.int _)⟩)
  · rename_i l
    obtain ⟨v, rfl, h1⟩ := hv.one
    obtain rfl := h1.bl
    cases e
    exact call_int1 pins s σ H _ us Q I rv (.inr ⟨l, rfl, q _ H (Same.refl H) (.int _)⟩)
  · cases e
theorem minI_mem (x : Int) : ∀ (l : List Int) (y : Int), y = minI x l → (y ∈ x :: l) ∧ ∀ z ∈ x :: l, y ≤ z := by
  intro l
  induction l generalizing x with
  | nil => intro y e; subst e; exact ⟨List.mem_singleton.mpr rfl, fun z hz => by rw [List.mem_singleton.mp hz]; exact Int.le_refl _⟩
  | cons w r ih =>
    intro y e
    have e' : y = minI (min x w) r := e
    obtain ⟨h1, h2⟩ := ih (min x w) y e'
    have hm : min x w = x ∨ min x w = w := by omega
    refine ⟨?_, fun z hz => ?_⟩
    · rcases List.mem_cons.mp h1 with q | q
      · rcases hm with k | k
        · rw [q, k]; exact List.mem_cons_self
        · rw [q, k]; exact List.mem_cons_of_mem _ List.mem_cons_self
      · exact List.mem_cons_of_mem _ (List.mem_cons_of_mem _ q)
    · have h3 := h2 (min x w) List.mem_cons_self
      rcases List.mem_cons.mp hz with q | q
      · subst q; omega
      · rcases List.mem_cons.mp q with q | q
        · subst q; omega
        · exact h2 z (List.mem_cons_of_mem _ q)
theorem maxI_mem (x : Int) : ∀ (l : List Int) (y : Int), y = maxI x l → (y ∈ x :: l) ∧ ∀ z ∈ x :: l, z ≤ y := by
  intro l
  induction l generalizing x with
  | nil => intro y e; subst e; exact ⟨List.mem_singleton.mpr rfl, fun z hz => by rw [List.mem_singleton.mp hz]; exact Int.le_refl _⟩
  | cons w r ih =>
    intro y e
    have e' : y = maxI (max x w) r := e
    obtain ⟨h1, h2⟩ := ih (max x w) y e'
    have hm : max x w = x ∨ max x w = w := by omega
    refine ⟨?_, fun z hz => ?_⟩
    · rcases List.mem_cons.mp h1 with q | q
      · rcases hm with k | k
        · rw [q, k]; exact List.mem_cons_self
        · rw [q, k]; exact List.mem_cons_of_mem _ List.mem_cons_self
      · exact List.mem_cons_of_mem _ (List.mem_cons_of_mem _ q)
    · have h3 := h2 (max x w) List.mem_cons_self
      rcases List.mem_cons.mp hz with q | q
      · subst q; omega
      · rcases List.mem_cons.mp q with q | q
        · subst q; omega
        · exact h2 z (List.mem_cons_of_mem _ q)
theorem bf_min (hc : X.calm = true) : CallR X (.builtin "min") (rCal X.K minD) := by
  intro pins s σ H vs us Q I rv h
  obtain ⟨ds, z, hv, e, q⟩ := h
  unfold minD at e
  split at e
  · rename_i i j
    obtain ⟨v, w, rfl, h1, h2⟩ := hv.two
    obtain rfl := h1.int
    obtain rfl := h2.int
    cases e
    exact call_min2 hc pins s σ H _ us Q I rv ⟨i, j, rfl, q _ H (Same.refl H) (.int _)⟩
  · rename_i l
    obtain ⟨v, rfl, h1⟩ := hv.one
    obtain ⟨a, xs, rfl, sa, ra⟩ := h1.lst
    obtain ⟨ns, e1, e2⟩ := Option.bind_eq_some_iff.mp e
    cases ns with
    | nil => cases e2
    | cons x r =>
      cases e2
      have hxs := ra.ints e1
      subst hxs
      refine cr_min hc pins s σ H _ us Q I rv ⟨a, x :: r, rfl, sa, by simp, fun m h1 h2 => ?_⟩
      obtain ⟨k1, k2⟩ := minI_mem x r _ rfl
      have : m = minI x r := Int.le_antisymm (h2 _ k1) (k2 _ h1)
      rw [this]
      exact q _ H (Same.refl H) (.int _)
  · cases e
theorem bf_max (hc : X.calm = true) : CallR X (.builtin "max") (rCal X.K maxD) := by
  intro pins s σ H vs us Q I rv h
  obtain ⟨ds, z, hv, e, q⟩ := h
  unfold maxD at e
  split at e
  · rename_i i j
    obtain ⟨v, w, rfl, h1, h2⟩ := hv.two
    obtain rfl := h1.int
    obtain rfl := h2.int
    cases e
    exact call_max2 hc pins s σ H _ us Q I rv ⟨i, j, rfl, q _ H (Same.refl H) (.int _)⟩
  · rename_i l
    obtain ⟨v, rfl, h1⟩ := hv.one
    obtain ⟨a, xs, rfl, sa, ra⟩ := h1.lst
    obtain ⟨ns, e1, e2⟩ := Option.bind_eq_some_iff.mp e
    cases ns with
    | nil => cases e2
    | cons x r =>
      cases e2
      have hxs := ra.ints e1
      subst hxs
      refine cr_max hc pins s σ H _ us Q I rv ⟨a, x :: r, rfl, sa, by simp, fun m h1 h2 => ?_⟩
      obtain ⟨k1, k2⟩ := maxI_mem x r _ rfl
      have : m = maxI x r := Int.le_antisymm (k2 _ h1) (h2 _ k1)
      rw [this]
      exact q _ H (Same.refl H) (.int _)
  · cases e
theorem sumT {pins : List (Addr × Obj)} {s : Shared} {σ : L2.St} {H : Hp} {a : Addr} {ns : List Int} {Q : VK} (hc : X.calm = true) (I : L2.Inv X pins σ H s) (sa : SqT X.K H a (ns.map V.int)) (q : Q (.int ns.sum) H) :
    wpAny (model X.prog X.w) X.A (call (.builtin "sum") [.ref a]) (EP X pins σ Q) X.xe s := by
  obtain ⟨its, rv, ht, _⟩ := I.tuple sa
  have hi : IntsAre its ns := rv.ints
  obtain ⟨xs, hx⟩ := hi.allInts.items
  have hn : numsOf its.toArray.toList = ns := by rw [show its.toArray.toList = its from rfl, hi.numsOf]
  have hl : s.heap.IsTuple a its.toArray := ht
  rw [hx] at hl hn
  rw [nums_intItems] at hn
  refine PySem.W.ktm_sumG (I.ok.hd hc) hl fun h' tk t' hk => ?_
  rw [preSum_eq, List.take_of_length_le (by simp), hn]
  exact ⟨.int _, H, I.kept hk, ⟨_, rfl⟩, q⟩
theorem bf_sum (hc : X.calm = true) : CallR X (.builtin "sum") (rCal X.K sumD) := by
  intro pins s σ H vs us Q I rv h
  obtain ⟨ds, z, hv, e, q⟩ := h
  unfold sumD at e
  split at e
  · rename_i l
    obtain ⟨v, rfl, h1⟩ := hv.one
    obtain ⟨a, xs, rfl, sa, ra⟩ := h1.lst
    obtain ⟨ns, e1, rfl⟩ := Option.map_eq_some_iff.mp e
    have hxs := ra.ints e1
    subst hxs
    exact cr_sum hc pins s σ H _ us Q I rv ⟨a, ns, rfl, sa, q _ H (Same.refl H) (.int _)⟩
  · rename_i l
    obtain ⟨v, rfl, h1⟩ := hv.one
    obtain ⟨a, xs, rfl, sa, ra⟩ := h1.tup
    obtain ⟨ns, e1, rfl⟩ := Option.map_eq_some_iff.mp e
    have hxs := ra.ints e1
    subst hxs
    obtain ⟨u, rfl, ru⟩ := vals1 rv
    cases ru
    exact sumT hc I sa.sq (q _ H (Same.refl H) (.int _))
  · cases e
theorem ins_perm (x : Int) : ∀ l : List Int, (isort.ins x l).Perm (x :: l)
  | [] => .refl _
  | y :: r => by
    unfold isort.ins
    split
    · exact .refl _
    · exact ((ins_perm x r).cons y).trans (.swap x y r)
theorem ins_sorted (x : Int) : ∀ l : List Int, l.Pairwise (· ≤ ·) → (isort.ins x l).Pairwise (· ≤ ·)
  | [], _ => List.pairwise_singleton _ _
  | y :: r, h => by
    unfold isort.ins
    rw [List.pairwise_cons] at h
    split
    · rename_i hxy
      refine List.pairwise_cons.mpr ⟨fun z hz => ?_, List.pairwise_cons.mpr h⟩
      rcases List.mem_cons.mp hz with rfl | hz
      · exact hxy
      · exact Int.le_trans hxy (h.1 z hz)
    · rename_i hxy
      refine List.pairwise_cons.mpr ⟨fun z hz => ?_, ins_sorted x r h.2⟩
      rcases List.mem_cons.mp ((ins_perm x r).mem_iff.mp hz) with rfl | hz
      · omega
      · exact h.1 z hz
theorem isort_perm : ∀ l : List Int, (isort l).Perm l
  | [] => .refl _
  | x :: r => (ins_perm x (isort r)).trans ((isort_perm r).cons x)
theorem isort_sorted : ∀ l : List Int, (isort l).Pairwise (· ≤ ·)
  | [] => .nil
  | x :: r => ins_sorted x (isort r) (isort_sorted r)
theorem sorted_one {a b : List Int} (h : a.Perm b) (ha : a.Pairwise (· ≤ ·)) (hb : b.Pairwise (· ≤ ·)) : a = b :=
  h.eq_of_pairwise (fun _ _ _ _ h1 h2 => Int.le_antisymm h1 h2) ha hb
theorem bf_sorted : CallR X (.builtin "sorted") (rCal X.K sortedD) := by
  intro pins s σ H vs us Q I rv h
  obtain ⟨ds, z, hv, e, q⟩ := h
  unfold sortedD at e
  split at e
  · rename_i l
    obtain ⟨v, rfl, h1⟩ := hv.one
    obtain ⟨a, xs, rfl, sa, ra⟩ := h1.lst
    obtain ⟨ns, e1, rfl⟩ := Option.map_eq_some_iff.mp e
    have hxs := ra.ints e1
    subst hxs
    refine call_frz cr_sortedI pins s σ H _ us Q I rv ⟨a, ns, rfl, sa, fun ns' p h1 h2 hp => ⟨p, _, rfl, upd_same, fun o => ?_⟩⟩
    rw [upd_upd]
    have e2 : ns' = isort ns := sorted_one (h1.trans (isort_perm ns).symm) h2 (isort_sorted ns)
    subst e2
    exact q _ _ (same_new hp) (new_fz hp (at_ints _))
  · cases e
theorem bf_all (hc : X.calm = true) : CallR X (.builtin "all") (rCal X.K allD) := by
  intro pins s σ H vs us Q I rv h
  obtain ⟨ds, z, hv, e, q⟩ := h
  unfold allD at e
  split at e
  · rename_i l
    obtain ⟨v, rfl, h1⟩ := hv.one
    obtain ⟨a, xs, rfl, sa, ra⟩ := h1.lst
    obtain ⟨ns, e1, rfl⟩ := Option.map_eq_some_iff.mp e
    have hxs := ra.bools e1
    subst hxs
    exact cr_all hc pins s σ H _ us Q I rv ⟨a, ns, rfl, sa, q _ H (Same.refl H) (.bl _)⟩
  · cases e
theorem bf_any (hc : X.calm = true) : CallR X (.builtin "any") (rCal X.K anyD) := by
  intro pins s σ H vs us Q I rv h
  obtain ⟨ds, z, hv, e, q⟩ := h
  unfold anyD at e
  split at e
  · rename_i l
    obtain ⟨v, rfl, h1⟩ := hv.one
    obtain ⟨a, xs, rfl, sa, ra⟩ := h1.lst
    obtain ⟨ns, e1, rfl⟩ := Option.map_eq_some_iff.mp e
    have hxs := ra.bools e1
    subst hxs
    exact cr_any hc pins s σ H _ us Q I rv ⟨a, ns, rfl, sa, q _ H (Same.refl H) (.bl _)⟩
  · cases e
theorem bf_tuple : CallR X (.type "tuple") (rCal X.K tupleD) := by
  intro pins s σ H vs us Q I rv h
  obtain ⟨ds, z, hv, e, q⟩ := h
  unfold tupleD at e
  split at e
  · rename_i l
    obtain ⟨v, rfl, h1⟩ := hv.one
    obtain ⟨a, xs, rfl, sa, ra⟩ := h1.lst
    cases e
    obtain ⟨u, rfl, rx⟩ := vals1 rv
    cases rx
    obtain ⟨its, r', pl, hz⟩ := I.list sa
    have hlen := r'.length
    refine call_tuple_list pl.isList (fun h' kp => ?_) (by simp only [List.size_toArray] <;> omega)
    exact tnewF (t' := s.toks) (I.kept (t' := s.toks) kp) r' hz ra q
  · rename_i l
    obtain ⟨v, rfl, h1⟩ := hv.one
    obtain ⟨a, xs, rfl, sa, ra⟩ := h1.tup
    cases e
    exact call_tuple_of pins s σ H _ us Q I rv ⟨a, xs, rfl, .inr ⟨sa.sq, q _ H (Same.refl H) (.tup sa ra)⟩⟩
  · cases e
theorem bf_list : CallR X (.type "list") (rCal X.K listD) := by
  intro pins s σ H vs us Q I rv h
  obtain ⟨ds, z, hv, e, q⟩ := h
  unfold listD at e
  split at e
  · rename_i l
    obtain ⟨v, rfl, h1⟩ := hv.one
    obtain ⟨a, xs, rfl, sa, ra⟩ := h1.lst
    cases e
    refine call_frz call_list_of pins s σ H _ us Q I rv ⟨a, xs, rfl, .inl sa, fun p hp => ⟨p, _, rfl, upd_same, fun o => ?_⟩⟩
    rw [upd_upd]
    exact q _ _ (same_new hp) (new_fz hp ra)
  · rename_i l
    obtain ⟨v, rfl, h1⟩ := hv.one
    obtain ⟨a, xs, rfl, sa, ra⟩ := h1.tup
    cases e
    refine call_frz call_list_of pins s σ H _ us Q I rv ⟨a, xs, rfl, .inr sa.sq, fun p hp => ⟨p, _, rfl, upd_same, fun o => ?_⟩⟩
    rw [upd_upd]
    exact q _ _ (same_new hp) (new_fz hp ra)
  · cases e
theorem log_fit {j : Int} (h : fitI j = true) : j.natAbs.log2 < 9000 := Nat.lt_of_lt_of_le (PySem.Flt.log2_lt_of (by decide) (fit_lt h)) (by decide)
theorem bf_divmod : CallR X (.builtin "divmod") (rCal X.K divmodD) := by
  intro pins s σ H vs us Q I rv h
  obtain ⟨ds, z, hv, e, q⟩ := h
  unfold divmodD at e
  split at e
  · rename_i i j
    obtain ⟨v, w, rfl, h1, h2⟩ := hv.two
    obtain rfl := h1.int
    obtain rfl := h2.int
    split at e
    · rename_i hl
      cases e
      rw [Bool.and_eq_true, decide_eq_true_eq] at hl
      obtain ⟨u, w', rfl, ⟨t, rfl⟩, ⟨t', rfl⟩⟩ := vals2 rv
      refine divmod_int (by omega) ?_ (.inl (PyProof.noPylong_of_log2 (log_fit hl.2)))
      rw [Int.fdiv_eq_ediv_of_nonneg i (by omega), Int.fmod_eq_emod_of_nonneg i (by omega)]
      exact tnewF (ys := [V.int (i / j), V.int (i % j)]) (its := [.int (i / j) s.toks, .int (i % j) (s.toks + 1)]) I (.cons ⟨_, rfl⟩ (.cons ⟨_, rfl⟩ .nil)) (by simp only [List.length_cons, List.length_nil]; rw [sizeLine_eq]; decide) (.cons (.int _) (.cons (.int _) .nil)) q
    · cases e
  · cases e
end
end Rv

set_option Elab.async false
set_option linter.all false
set_option maxRecDepth 100000
set_option maxHeartbeats 1000000
/-! Rv, part 5: methods, isinstance, by plain data. -/
namespace Rv
open PySem PySem.Spec PyProof.Rows L2

/-! ### one sign in a text -/
theorem countIn_count (c : Nat) : ∀ l : List Nat, countIn (.str ⟨#[c]⟩) (l.map fun n => PyData.str ⟨#[n]⟩) = ((l.count c : Nat) : Int)
  | [] => rfl
  | x :: r => by
    have ih := countIn_count c r
    rw [List.map_cons, List.count_cons]
    simp only [countIn]
    rw [ih]
    by_cases h : x = c
    · subst h
      rw [if_pos (by simp [PySem.Spec.same]), beq_self_eq_true, if_pos rfl, Int.natCast_add, Int.add_comm]
      rfl
    · have h2 : (PySem.Spec.same (PyData.str ⟨#[x]⟩) (PyData.str ⟨#[c]⟩)) = false := by
        simp [PySem.Spec.same, h]
      rw [h2, if_neg Bool.false_ne_true, beq_eq_false_iff_ne.mpr h, if_neg Bool.false_ne_true, Int.zero_add, Nat.add_zero]
theorem count_sign (z : Str) (c : Nat) : Txt.count z ⟨#[c]⟩ = (((txt z).count c : Nat) : Int) := by
  rw [count_is]
  exact countIn_count c _
section
open Builtin Builtin.Str
theorem occ_full (s sub : Str) (hi : Nat) : ∀ (l : List Nat) (st : Array Nat × Nat), 1 ≤ st.fst.size → (forIn l st (StrLaws.occBody s sub hi 1)).run.fst = st.fst
  | [], st, h => rfl
  | a :: l, st, h => by
    rw [List.forIn_cons]
    unfold StrLaws.occBody
    rw [if_neg (by omega)]
    exact occ_full s sub hi l _ h
theorem occ_first (s sub : Str) (hi : Nat) (p : Nat → Bool) (hp : ∀ i, p i = true ↔ (i + sub.length ≤ hi ∧ subAt s sub i = true)) : ∀ (l : List Nat) (free : Nat), (∀ i ∈ l, free ≤ i) →
    (forIn l ((#[] : Array Nat), free) (StrLaws.occBody s sub hi 1)).run.fst.toList = (match l.find? p with | some i => [i] | none => [])
  | [], free, _ => rfl
  | a :: l, free, hf => by
    have ha : free ≤ a := hf a List.mem_cons_self
    rw [List.forIn_cons]
    unfold StrLaws.occBody
    by_cases hc : p a = true
    · have hc' := (hp a).mp hc
      have c1 : ((((#[] : Array Nat), free).fst.size < 1 ∧ ((#[] : Array Nat), free).snd ≤ a) ∧ a + sub.length ≤ hi) ∧ subAt s sub a = true := ⟨⟨⟨by simp, ha⟩, hc'.1⟩, hc'.2⟩
      rw [if_pos c1, List.find?_cons_of_pos hc]
      show (forIn l (#[].push a, a + sub.length) (StrLaws.occBody s sub hi 1)).run.fst.toList = [a]
      rw [occ_full s sub hi l _ (by simp)]
      rfl
    · have hc' : ¬ (a + sub.length ≤ hi ∧ subAt s sub a = true) := fun h => hc ((hp a).mpr h)
      have c2 : ¬ (((((#[] : Array Nat), free).fst.size < 1 ∧ ((#[] : Array Nat), free).snd ≤ a) ∧ a + sub.length ≤ hi) ∧ subAt s sub a = true) := fun h => hc' ⟨h.1.2, h.2⟩
      rw [if_neg c2, List.find?_cons_of_neg hc]
      exact occ_first s sub hi p hp l free fun i hi' => hf i (List.mem_cons_of_mem _ hi')
theorem idxOf_get {l : List Nat} {c : Nat} (h : c ∈ l) : l[l.idxOf c]? = some c := by
  have h1 : l.idxOf c < l.length := List.idxOf_lt_length_iff.mpr h
  rw [List.getElem?_eq_getElem h1, List.getElem_idxOf h1]
theorem idxOf_before {α : Type} [BEq α] [LawfulBEq α] {l : List α} {c : α} {j : Nat} (h : j < l.idxOf c) : l[j]? ≠ some c := by
  intro e
  have h2 : j < l.length := (List.getElem?_eq_some_iff.mp e).1
  have h3 : l[j] = c := (List.getElem?_eq_some_iff.mp e).2
  have := List.not_of_lt_findIdx (p := (· == c)) (xs := l) h
  simp [h3] at this
theorem index_sign {z : Str} {c : Nat} (h : c ∈ txt z) : occurrences z ⟨#[c]⟩ 0 z.length 1 = [(txt z).idxOf c] := by
  rw [StrLaws.occ_eq]
  have hz : (txt z).length = z.length := by simp [txt, Str.length]
  rw [occ_first z ⟨#[c]⟩ z.length (fun i => decide ((txt z)[i]? = some c)) (fun i => by rw [decide_eq_true_eq]; exact (StrLaws.subAt_one z c i).symm) _ 0 (fun _ _ => Nat.zero_le _)]
  have h1 : (txt z).idxOf c < (txt z).length := List.idxOf_lt_length_iff.mpr h
  have : (List.range' 0 (z.length + 1 - 0)).find? (fun i => decide ((txt z)[i]? = some c)) = some ((txt z).idxOf c) := by
    rw [List.find?_range'_eq_some]
    refine ⟨decide_eq_true (idxOf_get h), ?_, fun j _ hj => ?_⟩
    · simp [List.mem_range']
      omega
    · rw [decide_eq_false (idxOf_before hj)]
      rfl
  rw [this]
end
theorem join_nil : ∀ ys : List Str, Txt.join ⟨#[]⟩ ys = ⟨(ys.flatMap txt).toArray⟩ := by
  intro ys
  rw [TL.join_eq]
  induction ys with
  | nil => rfl
  | cons x r ih =>
    cases r with
    | nil =>
      show x = _
      obtain ⟨⟨l⟩⟩ := x
      simp [txt]
    | cons y q =>
      show x ++ ⟨#[]⟩ ++ Str.join ⟨#[]⟩ (y :: q) = _
      rw [ih]
      obtain ⟨⟨l⟩⟩ := x
      rw [List.flatMap_cons]
      have e1 : ∀ a b : Str, a ++ b = ⟨(txt a ++ txt b).toArray⟩ := fun a b => by
        obtain ⟨⟨a⟩⟩ := a
        obtain ⟨⟨b⟩⟩ := b
        show Str.mk _ = Str.mk _
        simp [txt]
      rw [e1, e1]
      simp [txt]

section
variable {X : Cx}
def rMt (K : PySem.W.Frag) (g : PyData → List PyData → Option PyData) (T : PyData → Bool) : V → List V → Hp → VK → Prop := fun v vs H Q => ∃ d ds z, T d = true ∧ Rdy K H v d ∧ RdyL K H vs ds ∧ g d ds = some z ∧ Ret K H Q z
def isS : PyData → Bool
  | .str _ => true
  | _ => false
def isL : PyData → Bool
  | .list _ => true
  | _ => false
def isT : PyData → Bool
  | .tuple _ => true
  | _ => false
theorem mm_count : MtR X "str.count" (rMt X.K countD isS) := by
  intro pins s σ H x xs v us Q I rx rs h
  obtain ⟨d, ds, z, ht, hd, hs, e, q⟩ := h
  unfold countD at e
  split at e
  · rename_i a b
    obtain rfl := hd.str
    obtain ⟨w, rfl, h1⟩ := hs.one
    obtain rfl := h1.str
    split at e
    · rename_i hl
      cases e
      refine mt_count pins s σ H _ _ v us Q I rx rs ⟨a, b, rfl, rfl, ?_⟩
      have := one_sign hl
      rw [this, count_sign]
      exact q _ H (Same.refl H) (.int _)
    · cases e
  · cases ht
  · cases e
theorem cntU : ∀ {K : PySem.W.Frag} {H : Hp} {ys : List V} {l : List PyData} {its : List Value} {w : V} {y : PyData}, AtL K H ys l → Vals ys its → Rdy K H w y → flat y = true → l.all flat = true → its.countP (eqU w) = l.countP (fun z => PyData.eqv z y)
  | _, _, _, _, _, _, _, .nil, .nil, _, _, _ => rfl
  | _, _, _, _, _, _, _, .cons a b, .cons c d, hw, fy, fl => by
    rw [List.all_cons, Bool.and_eq_true] at fl
    rw [List.countP_cons, List.countP_cons, cntU b d hw fy fl.2, eqU_of c (flat_flatV (.inl a) fl.1), flat_eqV (.inl a) hw fl.1 fy]
theorem mm_count_list : MtR X "list.count" (rMt X.K countD isL) := by
  intro pins s σ H x xs v us Q I rx rs h
  obtain ⟨d, ds, z, ht, hd, hs, e, q⟩ := h
  unfold countD at e
  split at e
  · cases ht
  · rename_i l y
    obtain ⟨a, ys, rfl, sa, ra⟩ := hd.lst
    obtain ⟨w, rfl, h1⟩ := hs.one
    split at e
    · rename_i hl
      rw [Bool.and_eq_true] at hl
      cases e
      cases rx
      obtain ⟨uy, rfl, ry⟩ := rs.one
      obtain ⟨its, rv, ⟨⟨cls, dd, data, sl⟩, n, ho, hc, _, hdt⟩, _⟩ := I.list sa
      simp only at hc hdt
      subst hc hdt
      have ec := cntU ra rv h1 hl.1 hl.2
      refine call_meets PySem.F.slot_list_count ⟨_, ho, rfl⟩ PySem.F.entry_list_count (PySem.F.args_list_count_2 _ _) (SeqAt.list_countAt a its.toArray n dd sl uy (eqU w)) ⟨ho, fun u hu => mem_eqAt ry (flat_flatV h1 hl.1) rv (flat_all ra hl.2) u (by simpa using hu), ?_⟩
      refine ⟨.int ((l.countP (fun z => PyData.eqv z y) : Nat) : Int), H, I.tok _, ⟨s.toks, ?_⟩, q _ H (Same.refl H) (.int _)⟩
      show Value.int ((its.toArray.toList.countP (eqU w) : Nat) : Int) s.toks = _
      rw [show its.toArray.toList.countP (eqU w) = _ from ec]
    · cases e
  · cases e
theorem mm_index_str : MtR X "str.index" (rMt X.K indexD isS) := by
  intro pins s σ H x xs v us Q I rx rs h
  obtain ⟨d, ds, z, ht, hd, hs, e, q⟩ := h
  unfold indexD at e
  split at e
  · rename_i a b
    obtain rfl := hd.str
    obtain ⟨w, rfl, h1⟩ := hs.one
    obtain rfl := h1.str
    split at e
    · rename_i hl
      cases e
      refine mt_sindex pins s σ H _ _ v us Q I rx rs ⟨a, b, (txt a).idxOf ((txt b).getD 0 0), [], rfl, rfl, ?_, q _ H (Same.refl H) (.int _)⟩
      have := one_sign hl.1
      conv => lhs; rw [this]
      exact index_sign hl.2
    · cases e
  · cases ht
  · cases ht
  · cases e
theorem firstAt_some {p : PyData → Bool} : ∀ {l : List PyData} {k j : Nat}, firstAt p l k = some j → ∃ i d, j = k + i ∧ l[i]? = some d ∧ p d = true ∧ ∀ m e, m < i → l[m]? = some e → p e = false
  | [], _, _, h => by cases h
  | x :: r, k, j, h => by
    unfold firstAt at h
    split at h
    · rename_i hp
      cases h
      exact ⟨0, x, rfl, rfl, hp, fun m e hm _ => absurd hm (Nat.not_lt_zero _)⟩
    · rename_i hp
      obtain ⟨i, d, rfl, h1, h2, h3⟩ := firstAt_some h
      refine ⟨i + 1, d, by omega, by simpa using h1, h2, fun m e hm he => ?_⟩
      cases m with
      | zero =>
        have : x = e := by simpa using he
        subst this
        simpa using hp
      | succ m => exact h3 m e (by omega) (by simpa using he)
theorem mm_index_list : MtR X "list.index" (rMt X.K indexD isL) := by
  intro pins s σ H x xs v us Q I rx rs h
  obtain ⟨d, ds, z, ht, hd, hs, e, q⟩ := h
  unfold indexD at e
  split at e
  · cases ht
  · rename_i l y
    obtain ⟨a, ys, rfl, sa, ra⟩ := hd.lst
    obtain ⟨w, rfl, h1⟩ := hs.one
    split at e
    · rename_i hl
      rw [Bool.and_eq_true] at hl
      obtain ⟨k, hk, rfl⟩ := Option.map_eq_some_iff.mp e
      obtain ⟨i, dd, hi, g1, g2, g3⟩ := firstAt_some hk
      have : k = i := by omega
      subst this
      obtain ⟨zv, k1, k2⟩ := ra.get g1
      have fl : ∀ {m : Nat} {e : PyData}, l[m]? = some e → flat e = true := fun he => List.all_eq_true.mp hl.2 _ (List.mem_of_getElem? he)
      refine mt_index pins s σ H _ _ v us Q I rx rs ⟨a, ys, w, k, zv, rfl, rfl, sa, flat_flatV h1 hl.1, flat_all ra hl.2, k1, ?_, fun m z' hm hz => ?_, q _ H (Same.refl H) (.int _)⟩
      · rw [flat_eqV (.inl k2) h1 (fl g1) hl.1]
        exact g2
      · obtain ⟨e', e1, e2⟩ := ra.getV hz
        rw [flat_eqV (.inl e2) h1 (fl e1) hl.1]
        exact g3 m e' hm e1
    · cases e
  · cases ht
  · cases e
theorem mm_index_tup : MtR X "tuple.index" (rMt X.K indexD isT) := by
  intro pins s σ H x xs v us Q I rx rs h
  obtain ⟨d, ds, z, ht, hd, hs, e, q⟩ := h
  unfold indexD at e
  split at e
  · cases ht
  · cases ht
  · rename_i l y
    obtain ⟨a, ys, rfl, sa, ra⟩ := hd.tup
    obtain ⟨w, rfl, h1⟩ := hs.one
    obtain rfl := h1.str
    obtain ⟨ss, e1, e2⟩ := Option.bind_eq_some_iff.mp e
    split at e2
    · rename_i hl
      cases e2
      have hxs := ra.strs e1
      subst hxs
      have hlt : ss.idxOf y < ss.length := List.idxOf_lt_length_iff.mpr hl
      exact mt_tup_index pins s σ H _ _ v us Q I rx rs ⟨a, ss, y, ss.idxOf y, rfl, rfl, sa.sq, by rw [List.getElem?_eq_getElem hlt, List.getElem_idxOf hlt], fun m hm => idxOf_before hm, q _ H (Same.refl H) (.int _)⟩
    · cases e2
  · cases e
theorem mm_join : MtR X "str.join" (rMt X.K joinD isS) := by
  intro pins s σ H x xs v us Q I rx rs h
  obtain ⟨d, ds, z, ht, hd, hs, e, q⟩ := h
  unfold joinD at e
  split at e
  · rename_i a l
    obtain rfl := hd.str
    obtain ⟨w, rfl, h1⟩ := hs.one
    obtain ⟨p, ys, rfl, sa, ra⟩ := h1.lst
    obtain ⟨ss, e1, e2⟩ := Option.bind_eq_some_iff.mp e
    split at e2
    · rename_i hl
      cases e2
      have hxs := ra.strs e1
      subst hxs
      have ha : a = ⟨#[]⟩ := by
        obtain ⟨⟨l⟩⟩ := a
        have : l = [] := by simpa [Str.length] using hl.1
        rw [this]
      refine mt_join pins s σ H _ _ v us Q I rx rs ⟨a, p, ss, rfl, rfl, .inl sa, by rw [hl.1]; have := hl.2; omega, ?_⟩
      rw [ha, join_nil]
      exact q _ H (Same.refl H) (.str _)
    · cases e2
  · cases e

/-! ### isinstance -/
def tyD : PyData → String
  | .none => "NoneType"
  | .bool _ => "bool"
  | .int _ => "int"
  | .str _ => "str"
  | .tuple _ => "tuple"
  | .list _ => "list"
  | .dict _ => "dict"
theorem Rdy.ty {K : PySem.W.Frag} {H : Hp} {v : V} {d : PyData} (h : Rdy K H v d) : TyX K H v (.type (tyD d)) := by
  cases d with
  | none => rw [h.non]; exact .base .non
  | bool b => rw [h.bl]; exact .base (.bl b)
  | int i => rw [h.int]; exact .base (.int i)
  | str x => rw [h.str]; exact .base (.str x)
  | tuple l => obtain ⟨a, xs, rfl, ⟨o, e, _⟩, _⟩ := h.tup; exact .fTuple e
  | list l =>
    rcases h with h | ⟨a, xs, l, rfl, e, h1, h2⟩
    · cases h with
      | lst f g =>
        rcases f with ⟨o, f⟩ | (f | ⟨o, f⟩) | ⟨o, its, n, f1, f2, f3⟩
        · exact .base (.frz f)
        · cases f
        · cases f
        · exact .kList f1 f2
    · exact .base (.lst h1)
  | dict l => exact h.nodict.elim
theorem kit_all {d : PyData} {t : String} {b : Bool} (h : isiD d t = some b) : kitB (tyD d) t = some b := by
  cases d <;> simp only [isiD, reduceCtorEq] at h <;> simp only [tyD]
  case none =>
    split at h
    · rename_i hh
      cases h
      rcases hh with rfl | rfl | rfl | rfl | rfl <;> decide +kernel
    · cases h
  all_goals
    split at h
    · rename_i hh
      cases h
      first | (subst hh; decide +kernel) | (rcases hh with rfl | rfl <;> decide +kernel)
    · split at h
      · rename_i hh
        cases h
        rcases hh with rfl | rfl | rfl | rfl <;> decide +kernel
      · cases h
/-- isinstance(x, T) -/
def rIs (K : PySem.W.Frag) (t : String) : List V → Hp → VK → Prop := fun vs H Q => ∃ v d b, vs = [v, .ty t] ∧ Rdy K H v d ∧ isiD d t = some b ∧ Q (.bl b) H
theorem bf_isi (t : String) : CallR X (.builtin "isinstance") (rIs X.K t) := by
  intro pins s σ H vs us Q I rv h
  obtain ⟨v, d, b, rfl, hd, e, q⟩ := h
  exact call_isi pins s σ H _ us Q I rv ⟨v, .ty t, _, _, b, rfl, .ty t, hd.ty, kit_ty (kit_all e), q⟩
end
end Rv

set_option Elab.async false
set_option linter.all false
set_option maxRecDepth 100000
set_option maxHeartbeats 1000000
/-! Rv, part 6: readings by the small language, construct by construct. -/
namespace Rv
open PySem PySem.Spec PyProof.Rows L2

def SlotRel (K : PySem.W.Frag) (ι : List Addr) (H : Hp) (v : V) : Slot → Prop
  | .val r => AtV K ι H v r
  | .own l => ∃ a xs, v = .ref a ∧ H a = some (.lst xs) ∧ AtL K H xs l
def RelEn (K : PySem.W.Frag) (ι : List Addr) (en : En) (σ : L2.St) (H : Hp) : Prop := en.length = σ.length ∧ ∀ i s, getS en i = some s → ∃ v, σ[i]? = some (some v) ∧ SlotRel K ι H v s
def AtO (K : PySem.W.Frag) (ι : List Addr) (H : Hp) (v : V) (r : Vl) : Bool → Prop
  | true => ∃ d, r = .dat d ∧ Rdy K H v d
  | false => AtV K ι H v r
theorem SlotRel.ext {K : PySem.W.Frag} {ι ι' : List Addr} {H H' : Hp} {v : V} : ∀ {s : Slot}, SlotRel K ι H v s → ι <+: ι' → Ext H H' → SlotRel K ι' H' v s
  | .val r, h, p, e => AtV.ext h p e
  | .own l, ⟨a, xs, h1, h2, h3⟩, p, e => ⟨a, xs, h1, e.1 a _ h2 (fun _ z => nomatch z), h3.ext e⟩
theorem RelEn.ext {K : PySem.W.Frag} {ι ι' : List Addr} {en : En} {σ : L2.St} {H H' : Hp} (r : RelEn K ι en σ H) (p : ι <+: ι') (e : Ext H H') : RelEn K ι' en σ H' := ⟨r.1, fun i s h => by
  obtain ⟨v, h1, h2⟩ := r.2 i s h
  exact ⟨v, h1, h2.ext p e⟩⟩
theorem RelS.same {K : PySem.W.Frag} {ι : List Addr} {st : Sto} {H H' : Hp} (r : RelS K ι st H) (s : Same H H') : RelS K ι st H' :=
  r.keep (Same.ext' s).pst fun a ws _ q => s a _ q
theorem AtO.rdy {K : PySem.W.Frag} {ι : List Addr} {H : Hp} {v : V} {d : PyData} {b : Bool} (h : AtO K ι H v (.dat d) b) : Rdy K H v d := by
  cases b with
  | true => obtain ⟨d', e, h⟩ := h; cases e; exact h
  | false => exact .inl h
theorem Prefix.refl' {α : Type} (l : List α) : l <+: l := List.prefix_refl l
inductive AtVs (K : PySem.W.Frag) (ι : List Addr) (H : Hp) : List V → List Vl → Prop
  | nil : AtVs K ι H [] []
  | cons {v : V} {r : Vl} {vs : List V} {rs : List Vl} : AtV K ι H v r → AtVs K ι H vs rs → AtVs K ι H (v :: vs) (r :: rs)
theorem AtVs.ext {K : PySem.W.Frag} {ι ι' : List Addr} {H H' : Hp} (p : ι <+: ι') (e : Ext H H') : ∀ {vs : List V} {rs : List Vl}, AtVs K ι H vs rs → AtVs K ι' H' vs rs
  | _, _, .nil => .nil
  | _, _, .cons a b => .cons (a.ext p e) (AtVs.ext p e b)
theorem AtVs.length {K : PySem.W.Frag} {ι : List Addr} {H : Hp} : ∀ {vs : List V} {rs : List Vl}, AtVs K ι H vs rs → vs.length = rs.length
  | _, _, .nil => rfl
  | _, _, .cons _ b => by rw [List.length_cons, List.length_cons, AtVs.length b]
theorem AtVs.dats {K : PySem.W.Frag} {ι : List Addr} {H : Hp} : ∀ {vs : List V} {rs : List Vl} {ds : List PyData}, AtVs K ι H vs rs → dats rs = some ds → AtL K H vs ds
  | _, _, _, .nil, e => by cases e; exact .nil
  | _, .dat d :: r, ds, .cons a b, e => by
    simp only [Rv.dats, Option.map_eq_some_iff] at e
    obtain ⟨m, e1, rfl⟩ := e
    exact .cons a (AtVs.dats b e1)
  | _, .dic k :: r, ds, .cons a b, e => by cases e
theorem RdyL.ext {K : PySem.W.Frag} {H H' : Hp} {vs : List V} {ds : List PyData} (h : RdyL K H vs ds) (e : Ext H H') : RdyL K H' vs ds := Paired.mapP h fun _ _ q => q.ext e

section
variable (F : Str → List Vl → Sto → Res (Vl × Sto)) (GL : Str → Option PyData) (K : PySem.W.Frag)
/-- a value -/
def TEv (e : E) : TE := fun σ H Q => ∃ ι en st r st', RelEn K ι en σ H ∧ RelS K ι st H ∧ evE F GL e en st = .ok (r, st') ∧
  ∀ ι' v H', ι <+: ι' → RelS K ι' st' H' → AtO K ι' H' v r (isOwn en e) → Ext H H' → Q v H'
/-- a datum that is read -/
def TDv (e : E) : TE := fun σ H Q => ∃ ι en st d st', RelEn K ι en σ H ∧ RelS K ι st H ∧ toD (evE F GL e en st) = .ok (d, st') ∧
  ∀ ι' v H', ι <+: ι' → RelS K ι' st' H' → Rdy K H' v d → Ext H H' → Q v H'
/-- a truth value -/
def TTv (e : E) : TT := fun σ H Q => ∃ ι en st b st', RelEn K ι en σ H ∧ RelS K ι st H ∧ toB (evE F GL e en st) = .ok (b, st') ∧
  ∀ ι' H', ι <+: ι' → RelS K ι' st' H' → Ext H H' → Q b H'
/-- arguments -/
def TLv (e : E) : TA := fun σ H Q => ∃ ι en st rs st', RelEn K ι en σ H ∧ RelS K ι st H ∧ evL F GL e en st = .ok (rs, st') ∧
  ∀ ι' vs H', ι <+: ι' → RelS K ι' st' H' → AtVs K ι' H' vs rs → Ext H H' → Q vs H'
def TRv (e : E) : TA := fun σ H Q => ∃ ι en st ds st', RelEn K ι en σ H ∧ RelS K ι st H ∧ evR F GL e en st = .ok (ds, st') ∧
  ∀ ι' vs H', ι <+: ι' → RelS K ι' st' H' → RdyL K H' vs ds → Ext H H' → Q vs H'
end
theorem toD_ok {r : Res (Vl × Sto)} {d : PyData} {st : Sto} (h : toD r = .ok (d, st)) : r = .ok (.dat d, st) := by
  obtain ⟨⟨v, s⟩, e1, e2⟩ := Res.bind_ok h
  cases v with
  | dat d' => cases e2; exact e1
  | dic k => cases e2
theorem toB_ok {r : Res (Vl × Sto)} {b : Bool} {st : Sto} (h : toB r = .ok (b, st)) : r = .ok (.dat (.bool b), st) := by
  obtain ⟨⟨v, s⟩, e1, e2⟩ := Res.bind_ok h
  cases v with
  | dat d' => cases d' <;> first | (cases e2; exact e1) | cases e2
  | dic k => cases e2

section
variable {X : Cx} {F : Str → List Vl → Sto → Res (Vl × Sto)} {GL : Str → Option PyData} {pos : Pos} {a b c : Expr} {ia ib ic : E}
theorem qd (h : PE X a (TEv F GL X.K ia)) : PE X a (TDv F GL X.K ia) := pe_imp h fun σ H Q ⟨ι, en, st, d, st', R, S, e, q⟩ =>
  ⟨ι, en, st, .dat d, st', R, S, toD_ok e, fun ι' v H' p S' at' x => q ι' v H' p S' at'.rdy x⟩
/-- a bool as a value -/
def TBv (F : Str → List Vl → Sto → Res (Vl × Sto)) (GL : Str → Option PyData) (K : PySem.W.Frag) (e : E) : TE := fun σ H Q => ∃ ι en st b st', RelEn K ι en σ H ∧ RelS K ι st H ∧ toB (evE F GL e en st) = .ok (b, st') ∧
  ∀ ι' H', ι <+: ι' → RelS K ι' st' H' → Ext H H' → Q (.bl b) H'
theorem qb (h : PE X a (TEv F GL X.K ia)) : PE X a (TBv F GL X.K ia) := pe_imp h fun σ H Q ⟨ι, en, st, d, st', R, S, e, q⟩ =>
  ⟨ι, en, st, _, st', R, S, toB_ok e, fun ι' v H' p S' at' x => by rw [at'.rdy.bl]; exact q ι' H' p S' x⟩

theorem qe_var {i : Nat} {x : Str} (hN : X.N[i]? = some x) (hv : Vis X.env.scope x) (hd : (x == ("__debug__" : Str)) = false) (hcd : (x == ("__classdict__" : Str)) = false) : PE X (.Name x pos) (TEv F GL X.K (.var i)) := by
  refine pe_imp (pe_var hN hv hd hcd) fun σ H Q ⟨ι, en, st, r, st', R, S, e, q⟩ => ?_
  simp only [evE] at e
  have q' := fun v (hv : AtO X.K ι H v r (isOwn en (.var i))) (hs : st' = st) => q ι v H (List.prefix_refl _) (hs ▸ S) hv (Ext.refl H)
  cases hg : getS en i with
  | none => rw [hg] at e; cases e
  | some s =>
    obtain ⟨v, h1, h2⟩ := R.2 i s hg
    rw [hg] at e
    refine ⟨v, h1, ?_⟩
    cases s with
    | val r' =>
      cases e
      refine q' v ?_ rfl
      have : isOwn en (.var i) = false := by simp only [isOwn, hg]
      rw [this]
      exact h2
    | own l =>
      cases e
      refine q' v ?_ rfl
      have : isOwn en (.var i) = true := by simp only [isOwn, hg]
      rw [this]
      obtain ⟨a, xs, rfl, h3, h4⟩ := h2
      exact ⟨_, rfl, .inr ⟨a, xs, l, rfl, rfl, h3, h4⟩⟩
/-- an expression that is a constant -/
theorem qe_const {e : Expr} {ir : E} {v : V} {d : PyData} (h : PE X e (tC v)) (he : ∀ en st, evE F GL ir en st = .ok (.dat d, st)) (ho : ∀ en, isOwn en ir = false) (hat : ∀ H, At X.K H v d) : PE X e (TEv F GL X.K ir) := by
  refine pe_imp h fun σ H Q ⟨ι, en, st, r, st', R, S, e, q⟩ => ?_
  rw [he] at e
  cases e
  refine q ι v H (List.prefix_refl _) S ?_ (Ext.refl H)
  rw [ho]
  exact hat H
theorem qe_int {i : Int} {j : Nat} : PE X (.Constant (.int i) j pos) (TEv F GL X.K (.cint i)) := qe_const pe_int (fun _ _ => rfl) (fun _ => rfl) fun _ => .int i
theorem qe_str {i : Str} {j : Nat} : PE X (.Constant (.str i) j pos) (TEv F GL X.K (.cstr i)) := qe_const pe_str (fun _ _ => rfl) (fun _ => rfl) fun _ => .str i
theorem qe_bl {i : Bool} {j : Nat} : PE X (.Constant (.bool i) j pos) (TEv F GL X.K (.cbl i)) := qe_const pe_bl (fun _ _ => rfl) (fun _ => rfl) fun _ => .bl i
theorem qe_non {j : Nat} : PE X (.Constant .none j pos) (TEv F GL X.K .cnon) := qe_const pe_non (fun _ _ => rfl) (fun _ => rfl) fun _ => .non
theorem qe_glb {x : Str} {d : PyData} {v : V} {u : Value} (hg : Gl X x) (hm : X.mg x = some u) (r : RelV v u) (hat : ∀ H, At X.K H v d) (he : GL x = some d) (hd : (x == ("__debug__" : Str)) = false) : PE X (.Name x pos) (TEv F GL X.K (.glb x)) :=
  qe_const (pe_glob hg hm r hd) (fun _ _ => by simp only [evE, he]) (fun _ => rfl) hat
theorem qe_bin {op : Operator} (ha : PE X a (TEv F GL X.K ia)) (hb : PE X b (TEv F GL X.K ib)) : PE X (.BinOp a op b pos) (TEv F GL X.K (.bin op ia ib)) := by
  refine pe_imp (pe_op (ob op) (qd ha) (qd hb)) fun σ H Q ⟨ι, en, st, r, st', R, S, e, q⟩ => ?_
  simp only [evE] at e
  obtain ⟨⟨x, st1⟩, e1, e2⟩ := Res.bind_ok e
  obtain ⟨⟨y, st2⟩, e3, e4⟩ := Res.bind_ok e2
  refine ⟨ι, en, st, x, st1, R, S, e1, fun ι1 v H1 p1 S1 a1 x1 => ?_⟩
  refine ⟨ι1, en, st1, y, st2, R.ext p1 x1, S1, e3, fun ι2 u H2 p2 S2 a2 x2 => ?_⟩
  cases hz : binD op x y with
  | none => rw [hz] at e4; cases e4
  | some z =>
    rw [hz] at e4
    cases e4
    exact ⟨x, y, z, a1.ext x2, a2, hz, fun w H3 sm at3 => q ι2 w H3 (p1.trans p2) (S2.same sm) at3 ((x1.trans x2).trans (Same.ext' sm))⟩
theorem qe_neg (ha : PE X a (TEv F GL X.K ia)) : PE X (.UnaryOp .USub a pos) (TEv F GL X.K (.neg ia)) := by
  refine pe_imp (pe_un un_neg (qd ha)) fun σ H Q ⟨ι, en, st, r, st', R, S, e, q⟩ => ?_
  simp only [evE] at e
  obtain ⟨⟨x, st1⟩, e1, e2⟩ := Res.bind_ok e
  refine ⟨ι, en, st, x, st1, R, S, e1, fun ι1 v H1 p1 S1 a1 x1 => ?_⟩
  cases x <;> first | cases e2 | skip
  exact ⟨_, a1.int, q ι1 _ H1 p1 S1 (.int _) x1⟩
theorem qe_nt (ha : PE X a (TEv F GL X.K ia)) : PE X (.UnaryOp .Not a pos) (TEv F GL X.K (.nt ia)) := by
  refine pe_imp (pe_not (qb ha)) fun σ H Q ⟨ι, en, st, r, st', R, S, e, q⟩ => ?_
  simp only [evE] at e
  obtain ⟨⟨x, st1⟩, e1, e2⟩ := Res.bind_ok e
  refine ⟨ι, en, st, x, st1, R, S, e1, fun ι1 H1 p1 S1 x1 => ?_⟩
  cases e2
  exact ⟨x, rfl, q ι1 _ H1 p1 S1 (.bl _) x1⟩
theorem qt_not (ha : PT X a (TTv F GL X.K ia)) : PT X (.UnaryOp .Not a pos) (TTv F GL X.K (.nt ia)) := by
  refine pt_imp (pt_not ha) fun σ H Q ⟨ι, en, st, b, st', R, S, e, q⟩ => ?_
  have e := toB_ok e
  simp only [evE] at e
  obtain ⟨⟨x, st1⟩, e1, e2⟩ := Res.bind_ok e
  cases e2
  exact ⟨ι, en, st, x, st1, R, S, e1, fun ι1 H1 p1 S1 x1 => q ι1 H1 p1 S1 x1⟩
/-- a value as a test -/
theorem qt_val (h : PE X a (TEv F GL X.K ia)) (he : ∀ whole, isTrue a X.env whole = (do let v ← whole; standAt a.pos; holding [v] (truthy v))) : PT X a (TTv F GL X.K ia) := by
  refine pt_imp (pt_val (qb h) he) fun σ H Q ⟨ι, en, st, b, st', R, S, e, q⟩ => ?_
  exact ⟨ι, en, st, b, st', R, S, e, fun ι1 H1 p1 S1 x1 => ⟨b, rfl, q ι1 H1 p1 S1 x1⟩⟩
theorem cmp_imp {op : CmpOp} {σ : L2.St} {H : Hp} {Q : VK} (h : TEv F GL X.K (.cmp op ia ib) σ H Q) : tOp (rCmp X.K op) (TDv F GL X.K ia) (TDv F GL X.K ib) σ H Q := by
  obtain ⟨ι, en, st, r, st', R, S, e, q⟩ := h
  simp only [evE] at e
  obtain ⟨⟨x, st1⟩, e1, e2⟩ := Res.bind_ok e
  obtain ⟨⟨y, st2⟩, e3, e4⟩ := Res.bind_ok e2
  refine ⟨ι, en, st, x, st1, R, S, e1, fun ι1 v H1 p1 S1 a1 x1 => ?_⟩
  refine ⟨ι1, en, st1, y, st2, R.ext p1 x1, S1, e3, fun ι2 u H2 p2 S2 a2 x2 => ?_⟩
  cases hz : cmpD op x y with
  | none => rw [hz] at e4; cases e4
  | some z =>
    rw [hz] at e4
    cases e4
    exact ⟨x, y, z, a1.ext x2, a2, hz, q ι2 _ H2 (p1.trans p2) S2 (.bl _) (x1.trans x2)⟩
/-- what a test asks of the value -/
theorem tt_te {e : E} {σ : L2.St} {H : Hp} {Q : Bool → Hp → Prop} (h : TTv F GL X.K e σ H Q) : TEv F GL X.K e σ H (fun x H' => ∃ k, x = .bl k ∧ Q k H') := by
  obtain ⟨ι, en, st, b, st', R, S, e, q⟩ := h
  exact ⟨ι, en, st, _, st', R, S, toB_ok e, fun ι1 v H1 p1 S1 at1 x1 => ⟨b, at1.rdy.bl, q ι1 H1 p1 S1 x1⟩⟩
theorem qe_cmp {op : CmpOp} (hu : X.A.units + 65 < cLine) (ha : PE X a (TEv F GL X.K ia)) (hb : PE X b (TEv F GL X.K ib)) (hm : behindInMarks op b = false) : PE X (.Compare a [op] [b] pos) (TEv F GL X.K (.cmp op ia ib)) :=
  pe_imp (pe_cmpR (oc hu op) (qd ha) (qd hb) hm) fun _ _ _ h => cmp_imp h
theorem qt_cmp {op : CmpOp} (hu : X.A.units + 65 < cLine) (ha : PE X a (TEv F GL X.K ia)) (hb : PE X b (TEv F GL X.K ib)) (hm : behindInMarks op b = false) : PT X (.Compare a [op] [b] pos) (TTv F GL X.K (.cmp op ia ib)) :=
  pt_imp (pt_cmpR (oc hu op) (qd ha) (qd hb) hm) fun _ _ _ h => cmp_imp (tt_te h)
end
end Rv

set_option Elab.async false
set_option linter.all false
set_option maxRecDepth 100000
set_option maxHeartbeats 1000000
/-! Rv, part G: promises of defs where nothing is being shown around (repr), and repr itself. -/
namespace Rv
open PySem PySem.Spec PyProof.Rows L2
/-- room, and no container is being shown -/
structure RoomG (k : Nat) (A : Around) : Prop where
  rm : Room k A
  gs : A.guards = some []
theorem RoomG.mono {j k : Nat} {A : Around} (r : RoomG k A) (h : j ≤ k) : RoomG j A := ⟨r.rm.mono h, r.gs⟩
theorem RoomG.deeper {k : Nat} {A : Around} (r : RoomG (k + 1) A) (env : Env) : RoomG k (A.deeper env) := ⟨r.rm.deeper env, r.gs⟩
structure FnG (P : Program) (w : World) (K : PySem.W.Frag) (mg : Str → Option Value) (base : Heap) (cx : CXT) (k : Nat) (fa : Addr) (fd : FuncData) (qs : List Str) (sp : Sp) : Prop where
  lens : ∀ xs H Q E, sp xs H Q E → xs.length = qs.length
  goes : ∀ (A : Around) (out : List Env) (s : Shared) (H : Hp) (gv : Args) (us : List Value) (xs : List V) (Q : VK) (E : XK), RoomG k A → Env0 P w K mg base A out s H → BindsTo s fd gv (qs.zip us) → Vals xs us → sp xs H Q E → codeAny (model P w) A (.call (.ref fa) gv) (CR cx out P w H s Q E) s
section
variable {X : Cx} {cx : CXT} {k : Nat} {fa : Addr} {fd : FuncData} {qs : List Str} {sp : Sp} {E : XK}
theorem goG {pins : List (Addr × Obj)} {σ : L2.St} {H : Hp} {s : Shared} {Q : VK} {us : List Value} {xs : List V} (F : FnG X.prog X.w X.K X.mg X.base cx k fa fd qs sp) (hr : RoomG k X.A) (bd : Binds X.K fd qs []) (px : Passes cx X E)
    (J : Inv X pins σ H s) (rl : Vals xs us) (h : sp xs H Q E) : wpAny (model X.prog X.w) X.A (call (.ref fa) us) (EP X pins σ Q) X.xe s := by
  have n1 : (us ++ []).length = qs.length := by
    rw [List.append_nil, ← rl.length]
    exact F.lens _ _ _ _ h
  have b1 := bd s us J.kIn n1
  rw [List.append_nil] at b1
  refine wpAny_call (codeAny_mono (F.goes X.A X.stack s H ⟨us, []⟩ us xs Q E hr J.env0 b1 rl h) ?_)
  intro rr s2 hh
  rcases rr with e | fl
  · exact px pins σ H s e s2 J hh
  · cases fl with
    | ret u => exact J.after hh
    | next => cases hh
    | brk => cases hh
    | cont => cases hh
theorem callG {x : Str} {a : Expr} {es : List Expr} {t : TA} {p pos : Pos} (F : FnG X.prog X.w X.K X.mg X.base cx k fa fd qs sp) (hr : RoomG k X.A) (gl : Gl X x) (mx : X.mg x = some (.ref fa)) (kp : PySem.W.keepIn X.K (.ref fa) = true) (bd : Binds X.K fd qs []) (px : Passes cx X E)
    (ha : PA X (a :: es) t) (nd : (x == ("__debug__" : Str)) = false) (st : starEach (a :: es) X.env = (false, eval a X.env) :: starEach es X.env) (pl : (backTo pos (starEach es X.env)).any (·.1) = false) :
    PE X (.Call (.Name x p) (a :: es) [] pos) (fun σ H Q => t σ H fun xs H1 => sp xs H1 Q E) := by
  constructor
  intro pins s σ H Q J h
  apply wpAny_Call_Name_kw
  refine ld_glob J gl mx ?_ nd
  refine PySem.W.callWith_K (h₀ := X.base) J.ok.mod.kin kp ?_ st pl
  refine thn (ha.run pos pins s σ H _ J h) ?_
  rintro us s1 ⟨xs, H1, J1, rl, q⟩
  exact ⟨J1.kIn, goG F hr bd px J1 rl q⟩
theorem callG0 {x : Str} {p pos : Pos} (F : FnG X.prog X.w X.K X.mg X.base cx k fa fd qs sp) (hr : RoomG k X.A) (gl : Gl X x) (mx : X.mg x = some (.ref fa)) (kp : PySem.W.keepIn X.K (.ref fa) = true) (bd : Binds X.K fd qs []) (px : Passes cx X E)
    (nd : (x == ("__debug__" : Str)) = false) : PE X (.Call (.Name x p) [] [] pos) (fun σ H Q => sp [] H Q E) := by
  constructor
  intro pins s σ H Q J h
  apply wpAny_Call_Name_kw
  refine ld_glob J gl mx ?_ nd
  exact PySem.W.callWith_K0 J.kIn kp (goG (us := []) F hr bd px J .nil h)
end
section
variable {P : Program} {w : World} {K : PySem.W.Frag} {mg : Str → Option Value} {base : Heap} {k : Nat} {cx : CXT}
/-- a def by its body -/
theorem okG {x : Str} {st : Stmt} {fa : Addr} {fd : FuncData} {N qs : List Str} {sp : Sp} (Fu : L2.Fun K x x st fa fd) (S : FnScope N qs (defScope st)) (lens : ∀ xs H Q E, sp xs H Q E → xs.length = qs.length)
    (body : ∀ (cd : Value) (A : Around) (out : List Env) (s : Shared) (H : Hp) (xs : List V) (Q : VK) (E : XK), RoomG k (A.deeper (envOfC x (defScope st) s.heap.objs.size fa cd)) → sp xs H Q E →
      ∃ t, PSs (cxOf cx P w K mg base N x (defScope st) fa cd A out s H E) (defBody st) t ∧ t { nx := fun _ H' => Q .non H', rt := Q } (L2.start N xs) H) : FnG P w K mg base cx (k + 1) fa fd qs sp := by
  obtain ⟨c1, c2, kV, dc, pm, an, cd, ct, sl, rfl, lk, hc⟩ := Fu.ex
  refine ⟨lens, ?_⟩
  intro A out s H gv us xs Q E hr e0 bt rl hs
  have n1 := lens _ _ _ _ hs
  have up : ∀ b o, base.get? b = some o → s.heap.get? b = some o := fun b o e => (e0.bs b o e).1
  have kI : K.In s.heap := e0.mod.kin.keeps up
  have kinds : ∀ y ∈ qs.zip us, (defScope st).names.lookup y.1 = some .local ∨ ((defScope st).names.lookup y.1 = some .cell ∧ ((cellsFrom (s.heap.objs.size + 1) (defScope st).names []).lookup y.1).isSome = true) := by
    rintro ⟨n, v⟩ hy
    have hn := (List.of_mem_zip hy).1
    rcases S.par n hn with z | z
    · exact Or.inl z
    · exact Or.inr ⟨z, PySem.W.cellsFrom_some _ _ _ (Or.inl z)⟩
  refine codeAny_call_function hr.rm.depth (kI _ _ lk) rfl S.co S.gen rfl (PySem.W.codeRec_of kI hc) (bt _ _ _ _ ?_)
  refine wpAny_newFunctionEnv_cells S.kind kinds ?_
  rintro env rfl s1 z
  refine ⟨(e0.mod.nolimit.keeps up).keeps z.toInCall.keep, codeAny_func ?_⟩
  obtain ⟨t, h1, h2⟩ := body cd A out s H xs Q E (hr.deeper _) hs
  have J : Inv (cxOf cx P w K mg base N x (defScope st) fa cd A out s H E) [] (L2.start N xs) H s1 := inv_start S hr.rm.hd e0 n1 rl z
  refine wpAny_mono (h1.run [] s1 (L2.start N xs) H _ J h2) ?_ (fun e s2 q => q)
  intro fl s2 q
  cases fl with
  | ret u => obtain ⟨v, σ2, H2, J2, r2, q2⟩ := q; exact ⟨v, H2, J2.os, J2.bare, J2.base, J2.hok, r2, q2⟩
  | next => obtain ⟨σ2, H2, J2, q2⟩ := q; exact ⟨V.non, H2, J2.os, J2.bare, J2.base, J2.hok, rfl, q2⟩
  | brk => obtain ⟨_, _, _, q2⟩ := q; cases q2
  | cont => obtain ⟨_, _, _, q2⟩ := q; cases q2
end
end Rv

set_option Elab.async false
set_option linter.all false
set_option maxRecDepth 100000
set_option maxHeartbeats 1000000
/-! Rv, part R: repr by plain data. -/
namespace Rv
open PySem PySem.Spec PyProof.Rows L2
section
variable {X : Cx} {k : Nat}
theorem bf_repr (hr : RoomG k X.A) : CallR X (.builtin "repr") (rCal X.K reprD) := by
  intro pins s σ H vs us Q I rv h
  obtain ⟨ds, z, hv, e, q⟩ := h
  unfold reprD at e
  split at e
  · rename_i d
    split at e
    · rename_i hc
      simp only [Bool.and_eq_true, decide_eq_true_eq, Bool.not_eq_true'] at hc
      obtain ⟨⟨⟨c1, c2⟩, c3⟩, c4⟩ := hc
      cases e
      obtain ⟨v, rfl, h1⟩ := hv.one
      obtain ⟨u, rfl, hu⟩ := vals1 rv
      have sz : d.shown.length ≤ sizeLine := by rw [← line_size]; exact c4
      have un := hr.rm.un
      obtain ⟨as, rd⟩ := L2.Dp.reads I d v u h1.dp hu
      have fin : ∀ (h' : Heap) (t : Tok) (tk : Nat), (∀ b o, s.heap.get? b = some o → h'.get? b = some o) → EP X pins σ Q (.str d.shown t) { s with heap := h', toks := tk } := fun h' t tk hk => ⟨.str d.shown, H, I.kept hk, ⟨t, rfl⟩, q _ H (Same.refl H) (.str _)⟩
      cases d with
      | none => cases rd; exact PySem.P.repr_of_none (fin _ _ _ fun _ _ e => e)
      | bool b => cases rd; exact PySem.P.repr_of_bool (fin _ _ _ fun _ _ e => e)
      | int i => cases rd; exact PySem.P.repr_of_int (by simpa [PyData.showable] using c1) (fin _ _ _ fun _ _ e => e)
      | str x => cases rd; exact PySem.P.repr_of_str (fin _ _ _ fun _ _ e => e) sz
      | list l =>
        obtain ⟨a, rfl⟩ := isRef_of_reads rd rfl
        exact repr_of_reads' rd c1 (PyData.noDict_hsm c2) hr.gs (by omega) (fun _ _ e => e) (fun h' t tk hk => fin h' t tk hk) sz
      | tuple l =>
        obtain ⟨a, rfl⟩ := isRef_of_reads rd rfl
        exact repr_of_reads' rd c1 (PyData.noDict_hsm c2) hr.gs (by omega) (fun _ _ e => e) (fun h' t tk hk => fin h' t tk hk) sz
      | dict l => exact (h1.nodict).elim
    · cases e
  · cases e
end
end Rv

set_option Elab.async false
set_option linter.all false
set_option maxRecDepth 100000
set_option maxHeartbeats 1000000
/-! Rv, part 7: readings, further constructs. -/
namespace Rv
open PySem PySem.Spec PyProof.Rows L2
section
variable {X : Cx} {F : Str → List Vl → Sto → Res (Vl × Sto)} {GL : Str → Option PyData} {pos : Pos} {a b c : Expr} {ia ib ic : E}
theorem chn_imp {o1 o2 : CmpOp} {σ : L2.St} {H : Hp} {Q : VK} (h : TEv F GL X.K (.chn o1 o2 ia ib ic) σ H Q) : tChain (rCmp X.K o1) (rCmp X.K o2) (TDv F GL X.K ia) (TDv F GL X.K ib) (TDv F GL X.K ic) σ H Q := by
  obtain ⟨ι, en, st, r, st', R, S, e, q⟩ := h
  simp only [evE] at e
  obtain ⟨⟨x, st1⟩, e1, e2⟩ := Res.bind_ok e
  obtain ⟨⟨y, st2⟩, e3, e4⟩ := Res.bind_ok e2
  refine ⟨ι, en, st, x, st1, R, S, e1, fun ι1 v H1 p1 S1 a1 x1 => ?_⟩
  refine ⟨ι1, en, st1, y, st2, R.ext p1 x1, S1, e3, fun ι2 u H2 p2 S2 a2 x2 => ?_⟩
  cases hz : cmpD o1 x y with
  | none => rw [hz] at e4; cases e4
  | some k =>
    rw [hz] at e4
    refine ⟨x, y, k, a1.ext x2, a2, hz, k, rfl, ?_⟩
    cases k with
    | false =>
      cases e4
      rw [if_neg Bool.false_ne_true]
      exact q ι2 _ H2 (p1.trans p2) S2 (.bl _) (x1.trans x2)
    | true =>
      rw [if_pos rfl]
      obtain ⟨⟨z, st3⟩, e5, e6⟩ := Res.bind_ok e4
      refine ⟨ι2, en, st2, z, st3, R.ext (p1.trans p2) (x1.trans x2), S2, e5, fun ι3 w H3 p3 S3 a3 x3 => ?_⟩
      cases hw : cmpD o2 y z with
      | none => simp only [hw] at e6; cases e6
      | some k2 =>
        simp only [hw] at e6
        cases e6
        exact ⟨y, z, k2, a2.ext x3, a3, hw, q ι3 _ H3 ((p1.trans p2).trans p3) S3 (.bl _) ((x1.trans x2).trans x3)⟩
theorem qe_chn {o1 o2 : CmpOp} (hu : X.A.units + 65 < cLine) (ha : PE X a (TEv F GL X.K ia)) (hb : PE X b (TEv F GL X.K ib)) (hc : PE X c (TEv F GL X.K ic)) (hm : lastMarks [o1, o2] [b, c] = false) :
    PE X (.Compare a [o1, o2] [b, c] pos) (TEv F GL X.K (.chn o1 o2 ia ib ic)) := pe_imp (pe_chain (oc hu o1) (oc hu o2) (qd ha) (qd hb) (qd hc) hm) fun _ _ _ h => chn_imp h
theorem qt_chn {o1 o2 : CmpOp} (hu : X.A.units + 65 < cLine) (ha : PE X a (TEv F GL X.K ia)) (hb : PE X b (TEv F GL X.K ib)) (hc : PE X c (TEv F GL X.K ic)) (hm : lastMarks [o1, o2] [b, c] = false) :
    PT X (.Compare a [o1, o2] [b, c] pos) (TTv F GL X.K (.chn o1 o2 ia ib ic)) := pt_imp (pt_chain (oc hu o1) (oc hu o2) (qd ha) (qd hb) (qd hc) hm) fun _ _ _ h => chn_imp (tt_te h)

/-! ### and, or -/
/-- the readings of a chain of and (or): by evAnd (evOr) -/
def TAnd (F : Str → List Vl → Sto → Res (Vl × Sto)) (GL : Str → Option PyData) (K : PySem.W.Frag) (e : E) : TE := fun σ H Q => ∃ ι en st r st', RelEn K ι en σ H ∧ RelS K ι st H ∧ evAnd F GL e en st = .ok (r, st') ∧
  ∀ ι' v H', ι <+: ι' → RelS K ι' st' H' → AtV K ι' H' v r → Ext H H' → Q v H'
def TOr (F : Str → List Vl → Sto → Res (Vl × Sto)) (GL : Str → Option PyData) (K : PySem.W.Frag) (e : E) : TE := fun σ H Q => ∃ ι en st r st', RelEn K ι en σ H ∧ RelS K ι st H ∧ evOr F GL e en st = .ok (r, st') ∧
  ∀ ι' v H', ι <+: ι' → RelS K ι' st' H' → AtV K ι' H' v r → Ext H H' → Q v H'
def TAndT (F : Str → List Vl → Sto → Res (Vl × Sto)) (GL : Str → Option PyData) (K : PySem.W.Frag) (e : E) : TT := fun σ H Q => ∃ ι en st b st', RelEn K ι en σ H ∧ RelS K ι st H ∧ toB (evAnd F GL e en st) = .ok (b, st') ∧
  ∀ ι' H', ι <+: ι' → RelS K ι' st' H' → Ext H H' → Q b H'
def TOrT (F : Str → List Vl → Sto → Res (Vl × Sto)) (GL : Str → Option PyData) (K : PySem.W.Frag) (e : E) : TT := fun σ H Q => ∃ ι en st b st', RelEn K ι en σ H ∧ RelS K ι st H ∧ toB (evOr F GL e en st) = .ok (b, st') ∧
  ∀ ι' H', ι <+: ι' → RelS K ι' st' H' → Ext H H' → Q b H'
theorem qa_one {op : BoolOp} (ha : PE X a (TEv F GL X.K ia)) : PE X (.BoolOp op [a] pos) (TAnd F GL X.K (.cons ia .nil)) := by
  refine pe_imp (pe_one ha) fun σ H Q ⟨ι, en, st, r, st', R, S, e, q⟩ => ?_
  simp only [evAnd] at e
  split at e
  · cases e
  · rename_i ho
    exact ⟨ι, en, st, r, st', R, S, e, fun ι1 v H1 p1 S1 a1 x1 => q ι1 v H1 p1 S1 (by rw [Bool.not_eq_true] at ho; rw [ho] at a1; exact a1) x1⟩
theorem qo_one {op : BoolOp} (ha : PE X a (TEv F GL X.K ia)) : PE X (.BoolOp op [a] pos) (TOr F GL X.K (.cons ia .nil)) := by
  refine pe_imp (pe_one ha) fun σ H Q ⟨ι, en, st, r, st', R, S, e, q⟩ => ?_
  simp only [evOr] at e
  split at e
  · cases e
  · rename_i ho
    exact ⟨ι, en, st, r, st', R, S, e, fun ι1 v H1 p1 S1 a1 x1 => q ι1 v H1 p1 S1 (by rw [Bool.not_eq_true] at ho; rw [ho] at a1; exact a1) x1⟩
theorem qa_cons {rest : List Expr} {ir : E} {i2 : E} (ha : PE X a (TEv F GL X.K ia)) (hb : PE X (.BoolOp .And (b :: rest) pos) (TAnd F GL X.K (.cons ir i2))) : PE X (.BoolOp .And (a :: b :: rest) pos) (TAnd F GL X.K (.cons ia (.cons ir i2))) := by
  refine pe_imp (pe_and (qb ha) hb) fun σ H Q ⟨ι, en, st, r, st', R, S, e, q⟩ => ?_
  rw [evAnd] at e
  obtain ⟨⟨x, st1⟩, e1, e2⟩ := Res.bind_ok e
  refine ⟨ι, en, st, x, st1, R, S, e1, fun ι1 H1 p1 S1 x1 => ⟨x, rfl, ?_⟩⟩
  cases x with
  | true =>
    rw [if_pos rfl]
    exact ⟨ι1, en, st1, r, st', R.ext p1 x1, S1, e2, fun ι2 v H2 p2 S2 a2 x2 => q ι2 v H2 (p1.trans p2) S2 a2 (x1.trans x2)⟩
  | false =>
    rw [if_neg Bool.false_ne_true]
    cases e2
    exact q ι1 _ H1 p1 S1 (.bl _) x1
  · intro z; cases z
theorem qo_cons {rest : List Expr} {ir : E} {i2 : E} (ha : PE X a (TEv F GL X.K ia)) (hb : PE X (.BoolOp .Or (b :: rest) pos) (TOr F GL X.K (.cons ir i2))) : PE X (.BoolOp .Or (a :: b :: rest) pos) (TOr F GL X.K (.cons ia (.cons ir i2))) := by
  refine pe_imp (pe_or (qb ha) hb) fun σ H Q ⟨ι, en, st, r, st', R, S, e, q⟩ => ?_
  rw [evOr] at e
  obtain ⟨⟨x, st1⟩, e1, e2⟩ := Res.bind_ok e
  refine ⟨ι, en, st, x, st1, R, S, e1, fun ι1 H1 p1 S1 x1 => ⟨x, rfl, ?_⟩⟩
  cases x with
  | false =>
    rw [if_neg Bool.false_ne_true]
    exact ⟨ι1, en, st1, r, st', R.ext p1 x1, S1, e2, fun ι2 v H2 p2 S2 a2 x2 => q ι2 v H2 (p1.trans p2) S2 a2 (x1.trans x2)⟩
  | true =>
    rw [if_pos rfl]
    cases e2
    exact q ι1 _ H1 p1 S1 (.bl _) x1
  · intro z; cases z
theorem qe_and {es : List Expr} {ie : E} (h : PE X (.BoolOp .And es pos) (TAnd F GL X.K ie)) : PE X (.BoolOp .And es pos) (TEv F GL X.K (.andd ie)) :=
  pe_imp h fun σ H Q ⟨ι, en, st, r, st', R, S, e, q⟩ => ⟨ι, en, st, r, st', R, S, by simpa only [evE] using e, q⟩
theorem qe_or {es : List Expr} {ie : E} (h : PE X (.BoolOp .Or es pos) (TOr F GL X.K ie)) : PE X (.BoolOp .Or es pos) (TEv F GL X.K (.orr ie)) :=
  pe_imp h fun σ H Q ⟨ι, en, st, r, st', R, S, e, q⟩ => ⟨ι, en, st, r, st', R, S, by simpa only [evE] using e, q⟩
theorem pw_imp {e : Expr} {t t' : TT} (h : PW X e t) (i : ∀ σ H Q, t' σ H Q → t σ H Q) : PW X e t' := ⟨fun wh pins s σ H Q I hq => h.run wh pins s σ H Q I (i σ H Q hq)⟩
theorem wa_one (ha : PT X a (TTv F GL X.K ia)) : PW X (.BoolOp .And [a] pos) (TAndT F GL X.K (.cons ia .nil)) := by
  refine pw_imp (pw_and1 ha) fun σ H Q ⟨ι, en, st, b, st', R, S, e, q⟩ => ?_
  have e := toB_ok e
  simp only [evAnd] at e
  split at e
  · cases e
  · exact ⟨ι, en, st, b, st', R, S, by rw [e]; rfl, q⟩
theorem wo_one (ha : PT X a (TTv F GL X.K ia)) : PW X (.BoolOp .Or [a] pos) (TOrT F GL X.K (.cons ia .nil)) := by
  refine pw_imp (pw_or1 ha) fun σ H Q ⟨ι, en, st, b, st', R, S, e, q⟩ => ?_
  have e := toB_ok e
  simp only [evOr] at e
  split at e
  · cases e
  · exact ⟨ι, en, st, b, st', R, S, by rw [e]; rfl, q⟩
theorem wa_cons {rest : List Expr} {ir : E} {i2 : E} (ha : PT X a (TTv F GL X.K ia)) (hb : PW X (.BoolOp .And (b :: rest) pos) (TAndT F GL X.K (.cons ir i2))) : PW X (.BoolOp .And (a :: b :: rest) pos) (TAndT F GL X.K (.cons ia (.cons ir i2))) := by
  refine pw_imp (pw_and ha hb) fun σ H Q ⟨ι, en, st, r, st', R, S, e, q⟩ => ?_
  have e := toB_ok e
  rw [evAnd] at e
  obtain ⟨⟨x, st1⟩, e1, e2⟩ := Res.bind_ok e
  refine ⟨ι, en, st, x, st1, R, S, e1, fun ι1 H1 p1 S1 x1 => ?_⟩
  cases x with
  | true =>
    rw [if_pos rfl]
    exact ⟨ι1, en, st1, r, st', R.ext p1 x1, S1, by simp only [if_true] at e2; rw [e2]; rfl, fun ι2 H2 p2 S2 x2 => q ι2 H2 (p1.trans p2) S2 (x1.trans x2)⟩
  | false =>
    rw [if_neg Bool.false_ne_true]
    cases e2
    exact q ι1 H1 p1 S1 x1
  · intro z; cases z
theorem wo_cons {rest : List Expr} {ir : E} {i2 : E} (ha : PT X a (TTv F GL X.K ia)) (hb : PW X (.BoolOp .Or (b :: rest) pos) (TOrT F GL X.K (.cons ir i2))) : PW X (.BoolOp .Or (a :: b :: rest) pos) (TOrT F GL X.K (.cons ia (.cons ir i2))) := by
  refine pw_imp (pw_or ha hb) fun σ H Q ⟨ι, en, st, r, st', R, S, e, q⟩ => ?_
  have e := toB_ok e
  rw [evOr] at e
  obtain ⟨⟨x, st1⟩, e1, e2⟩ := Res.bind_ok e
  refine ⟨ι, en, st, x, st1, R, S, e1, fun ι1 H1 p1 S1 x1 => ?_⟩
  cases x with
  | false =>
    rw [if_neg Bool.false_ne_true]
    exact ⟨ι1, en, st1, r, st', R.ext p1 x1, S1, by simp only [Bool.false_eq_true, if_false] at e2; rw [e2]; rfl, fun ι2 H2 p2 S2 x2 => q ι2 H2 (p1.trans p2) S2 (x1.trans x2)⟩
  | true =>
    rw [if_pos rfl]
    cases e2
    exact q ι1 H1 p1 S1 x1
  · intro z; cases z
theorem qt_and {es : List Expr} {ie : E} (h : PW X (.BoolOp .And es pos) (TAndT F GL X.K ie)) : PT X (.BoolOp .And es pos) (TTv F GL X.K (.andd ie)) :=
  pt_imp h.pt fun σ H Q ⟨ι, en, st, r, st', R, S, e, q⟩ => ⟨ι, en, st, r, st', R, S, by simpa only [evE] using e, q⟩
theorem qt_or {es : List Expr} {ie : E} (h : PW X (.BoolOp .Or es pos) (TOrT F GL X.K ie)) : PT X (.BoolOp .Or es pos) (TTv F GL X.K (.orr ie)) :=
  pt_imp h.pt fun σ H Q ⟨ι, en, st, r, st', R, S, e, q⟩ => ⟨ι, en, st, r, st', R, S, by simpa only [evE] using e, q⟩
theorem qe_ite (hc : PT X c (TTv F GL X.K ic)) (ha : PE X a (TEv F GL X.K ia)) (hb : PE X b (TEv F GL X.K ib)) : PE X (.IfExp c a b pos) (TEv F GL X.K (.ite ic ia ib)) := by
  refine pe_imp (pe_ifExp hc ha hb) fun σ H Q ⟨ι, en, st, r, st', R, S, e, q⟩ => ?_
  simp only [evE] at e
  obtain ⟨⟨x, st1⟩, e1, e2⟩ := Res.bind_ok e
  refine ⟨ι, en, st, x, st1, R, S, e1, fun ι1 H1 p1 S1 x1 => ?_⟩
  split at e2
  · cases e2
  · rename_i ho
    rw [Bool.not_eq_true, Bool.or_eq_false_iff] at ho
    cases x with
    | true =>
      rw [if_pos rfl]
      exact ⟨ι1, en, st1, r, st', R.ext p1 x1, S1, by simpa using e2, fun ι2 v H2 p2 S2 a2 x2 => q ι2 v H2 (p1.trans p2) S2 (by rw [ho.1] at a2; exact a2) (x1.trans x2)⟩
    | false =>
      rw [if_neg Bool.false_ne_true]
      exact ⟨ι1, en, st1, r, st', R.ext p1 x1, S1, by simpa using e2, fun ι2 v H2 p2 S2 a2 x2 => q ι2 v H2 (p1.trans p2) S2 (by rw [ho.2] at a2; exact a2) (x1.trans x2)⟩

/-! ### arguments -/
theorem ql_nil : PA X [] (TLv F GL X.K .nil) := pa_imp pa_nil fun σ H Q ⟨ι, en, st, r, st', R, S, e, q⟩ => by
  simp only [evL] at e
  cases e
  exact q ι [] H (List.prefix_refl _) S .nil (Ext.refl H)
theorem ql_cons {es : List Expr} {ir : E} (ha : PE X a (TEv F GL X.K ia)) (hr : PA X es (TLv F GL X.K ir)) (hs : starEach (a :: es) X.env = (false, eval a X.env) :: starEach es X.env) : PA X (a :: es) (TLv F GL X.K (.cons ia ir)) := by
  refine pa_imp (pa_cons ha hr hs) fun σ H Q ⟨ι, en, st, r, st', R, S, e, q⟩ => ?_
  simp only [evL] at e
  split at e
  · cases e
  · rename_i ho
    rw [Bool.not_eq_true] at ho
    obtain ⟨⟨x, st1⟩, e1, e2⟩ := Res.bind_ok e
    obtain ⟨⟨xs, st2⟩, e3, e4⟩ := Res.bind_ok e2
    cases e4
    refine ⟨ι, en, st, x, st1, R, S, e1, fun ι1 v H1 p1 S1 a1 x1 => ?_⟩
    rw [ho] at a1
    exact ⟨ι1, en, st1, xs, _, R.ext p1 x1, S1, e3, fun ι2 vs H2 p2 S2 a2 x2 => q ι2 (v :: vs) H2 (p1.trans p2) S2 (.cons (AtV.ext a1 p2 x2) a2) (x1.trans x2)⟩
theorem qr_nil : PA X [] (TRv F GL X.K .nil) := pa_imp pa_nil fun σ H Q ⟨ι, en, st, r, st', R, S, e, q⟩ => by
  simp only [evR] at e
  cases e
  exact q ι [] H (List.prefix_refl _) S .nil (Ext.refl H)
theorem qr_cons {es : List Expr} {ir : E} (ha : PE X a (TEv F GL X.K ia)) (hr : PA X es (TRv F GL X.K ir)) (hs : starEach (a :: es) X.env = (false, eval a X.env) :: starEach es X.env) : PA X (a :: es) (TRv F GL X.K (.cons ia ir)) := by
  refine pa_imp (pa_cons (qd ha) hr hs) fun σ H Q ⟨ι, en, st, r, st', R, S, e, q⟩ => ?_
  simp only [evR] at e
  obtain ⟨⟨x, st1⟩, e1, e2⟩ := Res.bind_ok e
  obtain ⟨⟨xs, st2⟩, e3, e4⟩ := Res.bind_ok e2
  cases e4
  refine ⟨ι, en, st, x, st1, R, S, e1, fun ι1 v H1 p1 S1 a1 x1 => ?_⟩
  exact ⟨ι1, en, st1, xs, _, R.ext p1 x1, S1, e3, fun ι2 vs H2 p2 S2 a2 x2 => q ι2 (v :: vs) H2 (p1.trans p2) S2 (.cons (a1.ext x2) a2) (x1.trans x2)⟩

/-! ### tuples, lists -/
/-- a tuple display, its very object known -/
theorem pe_tupF {es : List Expr} {t : TA} {x1 : Nat} (h : PA X es t) : PE X (.Tuple es x1 pos) (fun σ H Q => t σ H fun xs H1 => xs.length ≤ sizeLine ∧ ∀ p o, H1 p = none → o.dict = none → Q (.ref p) (upd H1 p (.frz o (.tup xs)))) := by
  refine ⟨fun pins s σ H Q I hq => ?_⟩
  refine wpAny_Tuple_spliced (thn (h.run pos pins s σ H _ I hq) fun us s1 ⟨xs, H1, I1, r, z, q⟩ => ⟨by rw [← r.length]; exact z, ?_⟩)
  refine ⟨.ref s1.heap.objs.size, _, I1.laid (o := .frz (tpO us) (.tup xs)) (t' := s1.toks) (fun _ _ q => Heap.get?_push_of_some _ q) (Nat.le_refl _) ⟨Heap.get?_push_size _ rfl, z, us, r, IsTup.new _ _⟩, rfl, q _ _ I1.fresh rfl⟩
theorem qe_tup {es : List Expr} {ie : E} {x1 : Nat} (h : PA X es (TLv F GL X.K ie)) : PE X (.Tuple es x1 pos) (TEv F GL X.K (.tup ie)) := by
  refine pe_imp (pe_tupF h) fun σ H Q ⟨ι, en, st, r, st', R, S, e, q⟩ => ?_
  simp only [evE] at e
  obtain ⟨⟨xs, st1⟩, e1, e2⟩ := Res.bind_ok e
  refine ⟨ι, en, st, xs, st1, R, S, e1, fun ι1 vs H1 p1 S1 a1 x1 => ?_⟩
  cases hd : dats xs with
  | none => simp only [hd] at e2; cases e2
  | some ds =>
    simp only [hd] at e2
    split at e2
    · rename_i hl
      cases e2
      have al := a1.dats hd
      refine ⟨by rw [al.length, ← line_size]; exact hl, fun p o hp ho => q ι1 _ _ p1 (S1.new hp) (new_tp hp ho al) (x1.trans (Ext.new hp))⟩
    · cases e2
theorem qe_lst {es : List Expr} {ie : E} (h : PA X es (TLv F GL X.K ie)) : PE X (.List es pos) (TEv F GL X.K (.lst ie)) := by
  refine pe_imp (pe_frz (pe_lst h)) fun σ H Q ⟨ι, en, st, r, st', R, S, e, q⟩ => ?_
  simp only [evE] at e
  obtain ⟨⟨xs, st1⟩, e1, e2⟩ := Res.bind_ok e
  refine ⟨ι, en, st, xs, st1, R, S, e1, fun ι1 vs H1 p1 S1 a1 x1 => ?_⟩
  cases hd : dats xs with
  | none => simp only [hd] at e2; cases e2
  | some ds =>
    simp only [hd] at e2
    split at e2
    · rename_i hl
      cases e2
      have al := a1.dats hd
      refine ⟨by rw [al.length, ← line_size]; exact hl, fun p hp => ⟨p, _, rfl, upd_same, fun o => ?_⟩⟩
      rw [upd_upd]
      exact q ι1 _ _ p1 (S1.new hp) (new_fz hp al) (x1.trans (Ext.new hp))
    · cases e2
theorem qe_idx (ha : PE X a (TEv F GL X.K ia)) (hb : PE X b (TEv F GL X.K ib)) (hs : PlainIx b) : PE X (.Subscript a b pos) (TEv F GL X.K (.idx ia ib)) := by
  refine pe_imp (pe_ix oi (qd ha) (qd hb) hs) fun σ H Q ⟨ι, en, st, r, st', R, S, e, q⟩ => ?_
  simp only [evE] at e
  obtain ⟨⟨x, st1⟩, e1, e2⟩ := Res.bind_ok e
  obtain ⟨⟨y, st2⟩, e3, e4⟩ := Res.bind_ok e2
  refine ⟨ι, en, st, x, st1, R, S, e1, fun ι1 v H1 p1 S1 a1 x1 => ?_⟩
  refine ⟨ι1, en, st1, y, st2, R.ext p1 x1, S1, e3, fun ι2 u H2 p2 S2 a2 x2 => ?_⟩
  cases hz : idxD x y with
  | none => simp only [hz] at e4; cases e4
  | some z =>
    simp only [hz] at e4
    cases e4
    exact ⟨x, y, z, a1.ext x2, a2, hz, fun w H3 sm at3 => q ι2 w H3 (p1.trans p2) (S2.same sm) at3 ((x1.trans x2).trans (Same.ext' sm))⟩
/-- an end of a slice -/
def TOv (F : Str → List Vl → Sto → Res (Vl × Sto)) (GL : Str → Option PyData) (K : PySem.W.Frag) (e : E) : L2.St → Hp → (Option Int → Hp → Prop) → Prop := fun σ H Q => ∃ ι en st o st', RelEn K ι en σ H ∧ RelS K ι st H ∧ evO F GL e en st = .ok (o, st') ∧
  ∀ ι' H', ι <+: ι' → RelS K ι' st' H' → Ext H H' → Q o H'
theorem po_imp {e : Option Expr} {t t' : TO} (h : PO X e t) (i : ∀ σ H Q, t' σ H Q → t σ H Q) : PO X e t' := ⟨fun pins s σ H Q I hq => h.run pins s σ H Q I (i σ H Q hq)⟩
theorem qo_none : PO X none (TOv F GL X.K .nil) := po_imp po_none fun σ H Q ⟨ι, en, st, o, st', R, S, e, q⟩ => by
  simp only [evO] at e
  cases e
  exact q ι H (List.prefix_refl _) S (Ext.refl H)
theorem qo_some (ha : PE X a (TEv F GL X.K ia)) : PO X (some a) (TOv F GL X.K (.cons ia .nil)) := po_imp (po_some (qd ha)) fun σ H Q ⟨ι, en, st, o, st', R, S, e, q⟩ => by
  simp only [evO] at e
  obtain ⟨⟨x, st1⟩, e1, e2⟩ := Res.bind_ok e
  refine ⟨ι, en, st, x, st1, R, S, e1, fun ι1 v H1 p1 S1 a1 x1 => ?_⟩
  cases x <;> first | cases e2 | skip
  exact ⟨_, a1.int, q ι1 H1 p1 S1 x1⟩
theorem qe_slc {lo hi : Option Expr} {il ih : E} {p2 : Pos} (ha : PE X a (TEv F GL X.K ia)) (hl : PO X lo (TOv F GL X.K il)) (hh : PO X hi (TOv F GL X.K ih)) : PE X (.Subscript a (.Slice lo hi none p2) pos) (TEv F GL X.K (.slc ia il ih)) := by
  refine pe_imp (pe_slice os (qd ha) hl hh) fun σ H Q ⟨ι, en, st, r, st', R, S, e, q⟩ => ?_
  simp only [evE] at e
  obtain ⟨⟨x, st1⟩, e1, e2⟩ := Res.bind_ok e
  obtain ⟨⟨l, st2⟩, e3, e4⟩ := Res.bind_ok e2
  obtain ⟨⟨h, st3⟩, e5, e6⟩ := Res.bind_ok e4
  refine ⟨ι, en, st, x, st1, R, S, e1, fun ι1 v H1 p1 S1 a1 x1 => ?_⟩
  refine ⟨ι1, en, st1, l, st2, R.ext p1 x1, S1, e3, fun ι2 H2 p2 S2 x2 => ?_⟩
  refine ⟨ι2, en, st2, h, st3, R.ext (p1.trans p2) (x1.trans x2), S2, e5, fun ι3 H3 p3 S3 x3 => ?_⟩
  cases hz : sliceD x l h with
  | none => simp only [hz] at e6; cases e6
  | some z =>
    simp only [hz] at e6
    cases e6
    exact ⟨x, z, a1.ext (x2.trans x3), hz, fun w H4 sm at4 => q ι3 w H4 ((p1.trans p2).trans p3) (S3.same sm) at4 (((x1.trans x2).trans x3).trans (Same.ext' sm))⟩

/-! ### calls -/
/-- what a def of the small language promises -/
def FnSp (K : PySem.W.Frag) (run : List Vl → Sto → Res (Vl × Sto)) (n : Nat) : Sp := fun vs H Q _ => ∃ ι ds st r st', RelS K ι st H ∧ AtVs K ι H vs ds ∧ vs.length = n ∧ run ds st = .ok (r, st') ∧
  ∀ ι' v H', ι <+: ι' → RelS K ι' st' H' → AtV K ι' H' v r → Ext H H' → Q v H'
theorem call_imp {f : Str} {ie : E} {n : Nat} {σ : L2.St} {H : Hp} {Q : VK} (hn : ∀ en st rs st', evL F GL ie en st = .ok (rs, st') → rs.length = n) (h : TEv F GL X.K (.call f ie) σ H Q) : (fun (σ : L2.St) (H : Hp) (Q : VK) => TLv F GL X.K ie σ H fun xs H1 => FnSp X.K (F f) n xs H1 Q E0) σ H Q := by
  obtain ⟨ι, en, st, r, st', R, S, e, q⟩ := h
  simp only [evE] at e
  obtain ⟨⟨xs, st1⟩, e1, e2⟩ := Res.bind_ok e
  refine ⟨ι, en, st, xs, st1, R, S, e1, fun ι1 vs H1 p1 S1 a1 x1 => ?_⟩
  exact ⟨ι1, xs, st1, r, st', S1, a1, by rw [a1.length]; exact hn _ _ _ _ e1, e2, fun ι2 v H2 p2 S2 a2 x2 => q ι2 v H2 (p1.trans p2) S2 a2 (x1.trans x2)⟩
theorem qe_call {f : Str} {es : List Expr} {ie : E} {k : Nat} {fa : Addr} {fd : FuncData} {ps : List Str} {p : Pos} (Fk : FnG X.prog X.w X.K X.mg X.base CX0 k fa fd ps (FnSp X.K (F f) ps.length)) (hr : RoomG k X.A) (hg : Gl X f) (hm : X.mg f = some (.ref fa)) (hk : PySem.W.keepIn X.K (.ref fa) = true)
    (hb : Binds X.K fd ps []) (ha : PA X (a :: es) (TLv F GL X.K ie)) (hdb : (f == ("__debug__" : Str)) = false) (he : starEach (a :: es) X.env = (false, eval a X.env) :: starEach es X.env) (hpl : (backTo pos (starEach es X.env)).any (·.1) = false)
    (hn : ∀ en st rs st', evL F GL ie en st = .ok (rs, st') → rs.length = ps.length) : PE X (.Call (.Name f p) (a :: es) [] pos) (TEv F GL X.K (.call f ie)) :=
  pe_imp (callG (E := E0) Fk hr hg hm hk hb pass0 ha hdb he hpl) fun _ _ _ h => call_imp hn h
theorem bif_imp {f : Str} {g : List PyData → Option PyData} {ie : E} {σ : L2.St} {H : Hp} {Q : VK} (hg : ∀ xs, bifD f xs = g xs) (h : TEv F GL X.K (.bif f ie) σ H Q) : tCB (rCal X.K g) (TRv F GL X.K ie) σ H Q := by
  obtain ⟨ι, en, st, r, st', R, S, e, q⟩ := h
  simp only [evE] at e
  obtain ⟨⟨xs, st1⟩, e1, e2⟩ := Res.bind_ok e
  refine ⟨ι, en, st, xs, st1, R, S, e1, fun ι1 vs H1 p1 S1 a1 x1 => ?_⟩
  rw [hg] at e2
  cases hz : g xs with
  | none => simp only [hz] at e2; cases e2
  | some z =>
    simp only [hz] at e2
    cases e2
    exact ⟨xs, z, a1, hz, fun w H3 sm at3 => q ι1 w H3 p1 (S1.same sm) at3 (x1.trans (Same.ext' sm))⟩
theorem qe_bif {f : Str} {id : String} {g : List PyData → Option PyData} {es : List Expr} {ie : E} {p : Pos} (hc : CallR X (.builtin id) (rCal X.K g)) (hgd : ∀ xs, bifD f xs = g xs) (hg : Gl X f) (hm : X.mg f = none) (hv : bootBuiltins f = some (.builtin id)) (ha : PA X (a :: es) (TRv F GL X.K ie))
    (hn : f ≠ "__name__") (hdb : (f == ("__debug__" : Str)) = false) (he : starEach (a :: es) X.env = (false, eval a X.env) :: starEach es X.env) (hpl : (backTo pos (starEach es X.env)).any (·.1) = false) : PE X (.Call (.Name f p) (a :: es) [] pos) (TEv F GL X.K (.bif f ie)) :=
  pe_imp (pe_callB hc hg hm hv ha hn hdb he hpl) fun _ _ _ h => bif_imp hgd h
theorem qe_bty {f : Str} {T : String} {g : List PyData → Option PyData} {es : List Expr} {ie : E} {p : Pos} (hc : CallR X (.type T) (rCal X.K g)) (hgd : ∀ xs, bifD f xs = g xs) (hg : Gl X f) (hm : X.mg f = none) (hv : bootBuiltins f = some (.type T)) (ha : PA X (a :: es) (TRv F GL X.K ie))
    (hn : f ≠ "__name__") (hdb : (f == ("__debug__" : Str)) = false) (he : starEach (a :: es) X.env = (false, eval a X.env) :: starEach es X.env) (hpl : (backTo pos (starEach es X.env)).any (·.1) = false) : PE X (.Call (.Name f p) (a :: es) [] pos) (TEv F GL X.K (.bif f ie)) :=
  pe_imp (pe_callTy hc hg hm hv ha hn hdb he hpl) fun _ _ _ h => bif_imp hgd h
end
end Rv

set_option Elab.async false
set_option linter.all false
set_option maxRecDepth 100000
set_option maxHeartbeats 1000000
/-! Rv, part I: enumerate and zip over lists and tuples, the pairs' very objects known. -/
namespace Rv
open PySem PySem.Spec PyProof.Rows L2
def SqK (K : PySem.W.Frag) (H : Hp) (a : Addr) (xs : List V) : Bool → Prop
  | true => SqT K H a xs
  | false => SqL K H a xs
def IsSq (h : Heap) (a : Addr) (items : Array Value) : Bool → Prop
  | true => h.IsTuple a items
  | false => h.IsList a items
def IsIt (h : Heap) (it a : Addr) (i : Nat) : Bool → Prop
  | true => h.IsTupleIter it a i
  | false => h.IsListIter it a i
def itO (a : Addr) : Bool → Obj
  | true => { cls := .type "tuple_iterator", data := .fields #[.ref a, .int 0 0] }
  | false => { cls := .type "list_iterator", data := .fields #[.ref a, .int 0 0] }
theorem drawsK {prog : Program} {w : World} {A : Around} (hh : A.handled = none) (it l : Addr) (hne : l ≠ it) (items : Array Value) : ∀ κ : Bool, Draws prog w A it [it, l] items.size (fun i v => items[i]? = some v) (fun i h => IsIt h it l i κ ∧ IsSq h l items κ)
  | true => Draws.tuple hh it l hne items
  | false => Draws.list hh it l hne items
theorem beginsK (a : Addr) (items : Array Value) : ∀ κ : Bool, Begins (.ref a) (itO a κ) fun h => IsSq h a items κ
  | true => begins_tuple a items
  | false => begins_list a items
theorem itK {h : Heap} {it a : Addr} : ∀ {κ : Bool}, h.get? it = some (itO a κ) → IsIt h it a 0 κ
  | true, e => ⟨_, e, rfl, rfl⟩
  | false, e => ⟨_, e, rfl, rfl⟩
theorem IsIt.get {h : Heap} {it a : Addr} {i : Nat} : ∀ {κ : Bool}, IsIt h it a i κ → ∃ o, h.get? it = some o ∧ ∀ v, o.data ≠ .cell v
  | true, ⟨o, e, _, d⟩ => ⟨o, e, fun v q => by rw [d] at q; cases q⟩
  | false, ⟨o, e, _, d⟩ => ⟨o, e, fun v q => by rw [d] at q; cases q⟩
theorem IsIt.move {h h' : Heap} {it a : Addr} {i : Nat} (k : ∀ o, h.get? it = some o → h'.get? it = some o) : ∀ {κ : Bool}, IsIt h it a i κ → IsIt h' it a i κ
  | true, ⟨o, e, r⟩ => ⟨o, k o e, r⟩
  | false, ⟨o, e, r⟩ => ⟨o, k o e, r⟩
section
variable {X : Cx} {pins : List (Addr × Obj)} {σ : L2.St} {H : Hp} {s : Shared}
theorem inv_sq {a : Addr} {xs : List V} (I : L2.Inv X pins σ H s) : ∀ {κ : Bool}, SqK X.K H a xs κ → ∃ its : List Value, Vals xs its ∧ IsSq s.heap a its.toArray κ ∧ a < s.heap.objs.size
  | true, h => by
    obtain ⟨its, r, p, _⟩ := I.tuple h
    exact ⟨its, r, p, p.lt⟩
  | false, h => by
    obtain ⟨its, r, p, _⟩ := I.list h
    refine ⟨its, r, p.isList, ?_⟩
    obtain ⟨o, n, e, _⟩ := p
    exact Heap.lt_size e
/-- an iterator's own object is not the list that it walks -/
theorem off_sq {a b : Addr} {xs : List V} (I : L2.Inv X pins σ H s) (f : FpOk X pins H b) (κ : Bool) (h : SqK X.K H a xs κ) : a ≠ b := by
  intro e
  subst e
  have key : ∀ o, X.K.lookup a = some o → False := fun o q => by
    have hb : X.base.get? a = some o := I.mod.kin a o q
    rcases f.2.2.2.1 with z | z
    · exact I.ok.noex a o hb z
    · exact absurd (Nat.lt_of_lt_of_le (Heap.lt_size (I.ok.bs a o hb).1) z) (Nat.lt_irrefl _)
  cases κ with
  | true =>
    rcases h with (h | ⟨o, h⟩) | ⟨o, _, _, h, _⟩
    · rw [f.1] at h; cases h
    · rw [f.1] at h; cases h
    · exact key o h
  | false =>
    rcases h with (h | ⟨o, h⟩) | ⟨o, _, _, h, _⟩
    · rw [f.1] at h; cases h
    · rw [f.1] at h; cases h
    · exact key o h
end
def ItE (K : PySem.W.Frag) (a : Addr) (xs : List V) (κ : Bool) : It :=
  ⟨fun i H => i < xs.length ∧ SqK K H a xs κ, fun i H v H' => ∃ T x o, v = .ref T ∧ H T = none ∧ o.dict = none ∧ H' = upd H T (.frz o (.tup [.int (i : Nat), x])) ∧ xs[i]? = some x, fun i H => i = xs.length ∧ SqK K H a xs κ⟩
theorem turnE {P : Program} {w : World} {K : PySem.W.Frag} {elts : List Expr} {kk : Nat} {tpos : Pos} (a e it : Addr) (xs : List V) (κ : Bool) :
    Turn P w K (.Tuple elts kk tpos) (ItE K a xs κ) [e, it] e (fun i h => (∃ old, IsEnum h e it ((i : Nat) : Int) old) ∧ IsIt h it a i κ ∧ e ≠ it) where
  mem := by simp
  obj := fun i h st b hb => by
    obtain ⟨⟨old, he⟩, hi, _⟩ := st
    rcases (show b = e ∨ b = it by simpa using hb) with z | z
    · rw [z]; exact ⟨_, he, fun v q => nomatch q⟩
    · rw [z]; exact hi.get
  keep := fun i h h' st k => by
    obtain ⟨⟨old, he⟩, hi, hne⟩ := st
    exact ⟨⟨old, k e (by simp) _ he⟩, hi.move fun o q => k it (by simp) o q, hne⟩
  item := by
    intro X hP hw hK hc i pins s σ H E I hf st hg
    subst hP hw hK
    obtain ⟨⟨old, he⟩, hit, hne⟩ := st
    obtain ⟨hlt, hq⟩ := hg
    obtain ⟨its, rv, hsq, _⟩ := inv_sq I hq
    have hae : a ≠ e := off_sq I (hf e (by simp)) κ hq
    have hai : a ≠ it := off_sq I (hf it (by simp)) κ hq
    have hel : e < s.heap.objs.size := Heap.lt_size he
    have hil : it < s.heap.objs.size := let ⟨_, q, _⟩ := hit.get; Heap.lt_size q
    have hx : xs[i]? = some xs[i] := List.getElem?_eq_getElem hlt
    refine wpAny_pyNext_enum_itemD (drawsK (prog := X.prog) (w := X.w) (A := X.A.in1) (I.ok.hd hc) it a hai its.toArray κ) he ⟨hit, hsq⟩ (by rw [List.size_toArray, ← rv.length]; exact hlt) hne (by simp [hne, Ne.symm hae]) fun u h' tk hu ho st' hT hsz hk => ?_
    obtain ⟨u', hu', ru⟩ := rv.get hx
    have : u' = u := by
      have q1 : its[i]? = some u := by simpa using hu
      rw [hu'] at q1
      exact Option.some.inj q1
    subst this
    refine ⟨_, rfl, wpAny_letOwnedTupleGo_enum (s := { s with heap := h', toks := tk + 1 }) ho fun h'' he' sb => ?_⟩
    have hT2 : h''.get? s.heap.objs.size = some (tpO [.int i tk, u']) := (sb.2 _ (Nat.ne_of_gt hel)).trans hT
    have new : ObjOk X.prog X.w (upd H s.heap.objs.size (.frz (tpO [.int i tk, u']) (.tup [.int (i : Nat), xs[i]]))) h'' s.heap.objs.size (.frz (tpO [.int i tk, u']) (.tup [.int (i : Nat), xs[i]])) :=
      ⟨hT2, by show 2 ≤ sizeLine; decide, [.int i tk, u'], .cons ⟨_, rfl⟩ (.cons ru .nil), ⟨_, hT2, rfl, _, rfl⟩⟩
    have I1 := I.turnedNew (t' := tk + 1) (ch := [e, it]) (fun b ob hb q => (sb.2 b (fun z => hb (by simp [z]))).trans (hk b ob (fun z => hb (by simp [z])) (fun z => hb (by simp [z])) q)) hf (Nat.le_refl _) new
    refine ⟨.ref s.heap.objs.size, _, I1, rfl, ⟨_, xs[i], _, rfl, I.fresh, rfl, rfl, hx⟩, ⟨⟨u', ?_⟩, st'.1.move fun o q => (sb.2 it (Ne.symm hne)).trans q, hne⟩, fun b hb => ?_⟩
    · rw [show ((i + 1 : Nat) : Int) = (i : Int) + 1 by omega]
      exact he'
    · have hb' : b < s.heap.objs.size := by
        rcases (show b = e ∨ b = it by simpa using hb) with z | z
        · rw [z]; exact hel
        · rw [z]; exact hil
      rw [upd_ne (Nat.ne_of_lt hb')]
      exact (hf b hb).1
  done := by
    intro X hP hw hK hc i pins s σ H E I hf st hg
    subst hP hw hK
    obtain ⟨⟨old, he⟩, hit, hne⟩ := st
    obtain ⟨rfl, hq⟩ := hg
    obtain ⟨its, rv, hsq, _⟩ := inv_sq I hq
    have hai : a ≠ it := off_sq I (hf it (by simp)) κ hq
    obtain ⟨f0, f1, f2, f3, f4, f5⟩ := hf it (by simp)
    refine wpAny_pyNext_enum_endD (drawsK (prog := X.prog) (w := X.w) (A := X.A.in1) (I.ok.hd hc) it a hai its.toArray κ) he ⟨by rw [List.size_toArray, ← rv.length]; exact hit, hsq⟩ fun h' eb => ⟨rfl, I.turned (t' := s.toks) (fun b o hb q => eb b o hb q) f0 f1 f3 f4 f5⟩
  self := fun A i s Q E st h => let ⟨⟨_, he⟩, _⟩ := st; wpAny_pyIter_enum he h
theorem meets_enum1 {v : Value} {o : Obj} {H : Heap → Prop} (B : Begins v o H) :
    Meets (Builtin.«enumerate.__new__» ⟨[.type "enumerate", v], []⟩) (fun _ R s => H s.heap ∧
      R (.ok (.ret (.ref (s.heap.push o).objs.size))) { s with heap := (s.heap.push o).push { cls := .type "enumerate", data := .fields #[.none, .bool false, .ref s.heap.objs.size, rawInt 0, .none, .none] } }) :=
  .of_wp fun prog w A R s h => by
    obtain ⟨hp, g, d, tk, os⟩ := s; obtain ⟨h1, h⟩ := h
    have hsub := sub_enumerate
    have q1 : ∀ {A' : Around} {E : Value → Shared → Prop} {Q : Value → Shared → Prop}, Q (.ref hp.objs.size) ⟨hp.push o, g, d, tk, os⟩ → wpAny (model prog w) A' (pyIter v) Q E ⟨hp, g, d, tk, os⟩ :=
      fun q => B.iter prog w _ _ ⟨hp, g, d, tk, os⟩ _ h1 q
    wp_walk using q1
    refine wpAny_stack_any fun st => wpAny_pure ?_
    split
    · rename_i c _ _ _ _ _
      cases (c == Value.type "enumerate")
      · wp_walk using q1
        exact ⟨_, rfl, h⟩
      · wp_walk using q1
        exact ⟨_, rfl, h⟩
    · wp_walk using q1
      exact ⟨_, rfl, h⟩
theorem call_enum1 {prog : Program} {w : World} {A : Around} {E : Value → Shared → Prop} {s : Shared} {v : Value} {o : Obj} {H : Heap → Prop} {Q : Value → Shared → Prop} (B : Begins v o H) (h1 : H s.heap)
    (h : ∀ h', IsEnum h' (s.heap.objs.size + 1) s.heap.objs.size 0 .none → h'.get? s.heap.objs.size = some o → (∀ b o, s.heap.get? b = some o → h'.get? b = some o) → Q (.ref (s.heap.objs.size + 1)) { s with heap := h' }) :
    wpAny (model prog w) A (call (.type "enumerate") [v]) Q E s := by
  refine callType_new F.called_enumerate (by decide) (F.typeCall_enumerate_1 _) (F.newCall_enumerate_1 _) (fun obj => F.args_object_init_2 obj _) F.entry_enumerate_new (meets_enum1 B) ⟨h1, ?_⟩
  have hz : (s.heap.push o).objs.size = s.heap.objs.size + 1 := Heap.size_push ..
  show _ ∧ _
  rw [hz]
  have he : IsEnum ((s.heap.push o).push { cls := .type "enumerate", data := .fields #[.none, .bool false, .ref s.heap.objs.size, rawInt 0, .none, .none] }) (s.heap.objs.size + 1) s.heap.objs.size 0 .none := by
    have := Heap.get?_push_size (s.heap.push o) (o := { cls := .type "enumerate", data := .fields #[.none, .bool false, .ref s.heap.objs.size, rawInt 0, .none, .none] }) rfl
    rw [hz] at this
    exact this
  exact ⟨⟨_, he, rfl⟩, h _ he (Heap.get?_push_of_some _ (Heap.get?_push_size _ B.free)) fun b o x => Heap.get?_push_of_some _ (Heap.get?_push_of_some _ x)⟩
def iEnm (K : PySem.W.Frag) (ta : TA) : TI := fun σ H R => ta σ H fun vs H1 => ∃ a xs κ, vs = [.ref a] ∧ SqK K H1 a xs κ ∧ R (ItE K a xs κ) H1
theorem pi_enm {X : Cx} {e : Expr} {ta : TA} {p pos tpos : Pos} {elts : List Expr} {kk : Nat} (hg : Gl X "enumerate") (hm : X.mg "enumerate" = none) (ha : PA X [e] ta) (hs : starEach [e] X.env = [(false, eval e X.env)]) :
    PI X (.Tuple elts kk tpos) (.Call (.Name "enumerate" p) [e] [] pos) (iEnm X.K ta) := by
  refine ⟨fun pins s σ H R I h => ?_⟩
  refine Call_ (ld_blt I hg hm boot_enumerate (PyProof.Rows.callWith_type1 (thn (ha.run pos pins s σ H _ I h) fun us s1 ⟨vs, H1, I1, r1, q1⟩ => ?_) hs rfl))
  obtain ⟨a, xs, κ, ex, hq, q⟩ := q1
  subst ex
  obtain ⟨u, rfl, ru⟩ := vals1 r1
  cases ru
  obtain ⟨its, rv, hsq, _⟩ := inv_sq I1 hq
  refine call_enum1 (beginsK a its.toArray κ) hsq fun h' he hit hk => wpAny_pyIter_enum he ?_
  have I2 : L2.Inv X pins σ H1 { s1 with heap := h' } := I1.kept (t' := s1.toks) hk
  refine ⟨s1.heap.objs.size + 1, [s1.heap.objs.size + 1, s1.heap.objs.size], _, _, H1, rfl, I2, turnE a (s1.heap.objs.size + 1) s1.heap.objs.size xs κ, ⟨⟨.none, he⟩, itK hit, Nat.succ_ne_self _⟩, fun b hb => ?_, q⟩
  have hle : s1.heap.objs.size ≤ b := by
    rcases (show b = s1.heap.objs.size + 1 ∨ b = s1.heap.objs.size by simpa using hb) with z | z
    · rw [z]; exact Nat.le_add_right _ _
    · rw [z]; exact Nat.le_refl _
  exact I1.fpOk hle (I1.hok.fresh hle)
end Rv

set_option Elab.async false
set_option linter.all false
set_option maxRecDepth 100000
set_option maxHeartbeats 1000000
/-! Rv, part Z: zip over lists and tuples. -/
namespace Rv
open PySem PySem.Spec PyProof.Rows L2
def ItZ (K : PySem.W.Frag) (a b : Addr) (xs ys : List V) (κ μ : Bool) : It :=
  ⟨fun i H => i < xs.length ∧ i < ys.length ∧ SqK K H a xs κ ∧ SqK K H b ys μ, fun i H v H' => ∃ T x y o, v = .ref T ∧ H T = none ∧ o.dict = none ∧ H' = upd H T (.frz o (.tup [x, y])) ∧ xs[i]? = some x ∧ ys[i]? = some y,
    fun i H => i ≤ xs.length ∧ i ≤ ys.length ∧ (i = xs.length ∨ i = ys.length) ∧ SqK K H a xs κ ∧ SqK K H b ys μ⟩
structure ZApart (z TI TO i1 i2 : Addr) : Prop where
  zTI : TI ≠ z
  zTO : TO ≠ z
  TITO : TI ≠ TO
  TI1 : TI ≠ i1
  TI2 : TI ≠ i2
  z1 : z ≠ i1
  z2 : z ≠ i2
  T1 : TO ≠ i1
  T2 : TO ≠ i2
  i12 : i1 ≠ i2
theorem ZApart.sep {z TI TO i1 i2 a b : Addr} (D : ZApart z TI TO i1 i2) (za : a ≠ z) (zb : b ≠ z) (Ta : a ≠ TO) (Tb : b ≠ TO) (b1 : b ≠ i1) (a2 : a ≠ i2) : ZipSep2 z TI TO i1 i2 [i1, a] [i2, b] where
  TIz := D.zTI
  TOz := D.zTO
  TITO := D.TITO
  TIi1 := D.TI1
  mem1 := by simp
  zf1 := by simp [D.z1, Ne.symm za]
  Tf1 := by simp [D.T1, Ne.symm Ta]
  TIi2 := D.TI2
  mem2 := by simp
  zf2 := by simp [D.z2, Ne.symm zb]
  Tf2 := by simp [D.T2, Ne.symm Tb]
  sep1_2 := by simp [D.i12, Ne.symm b1]
  sep2_1 := by simp [Ne.symm D.i12, Ne.symm a2]
theorem turnZ {P : Program} {w : World} {K : PySem.W.Frag} {elts : List Expr} {kk : Nat} {tpos : Pos} {a b z TI TO i1 i2 : Addr} (xs ys : List V) (κ μ : Bool) (D : ZApart z TI TO i1 i2) :
    Turn P w K (.Tuple elts kk tpos) (ItZ K a b xs ys κ μ) [z, TI, TO, i1, i2] z (fun i h => IsZip h z TI TO .none ∧ IsTupOf2 h TI (.ref i1) (.ref i2) ∧ (∃ x y, IsTupOf2 h TO x y) ∧ IsIt h i1 a i κ ∧ IsIt h i2 b i μ) where
  mem := by simp
  obj := fun i h st c hc => by
    obtain ⟨hz, hTI, ⟨x, y, hTO⟩, h1, h2⟩ := st
    rcases (show c = z ∨ c = TI ∨ c = TO ∨ c = i1 ∨ c = i2 by simpa using hc) with q | q | q | q | q
    · rw [q]; exact ⟨_, hz, fun v q => nomatch q⟩
    · rw [q]; exact ⟨_, hTI, fun v q => nomatch q⟩
    · rw [q]; exact ⟨_, hTO, fun v q => nomatch q⟩
    · rw [q]; exact h1.get
    · rw [q]; exact h2.get
  keep := fun i h h' st k => by
    obtain ⟨hz, hTI, ⟨x, y, hTO⟩, h1, h2⟩ := st
    exact ⟨k z (by simp) _ hz, k TI (by simp) _ hTI, ⟨x, y, k TO (by simp) _ hTO⟩, h1.move fun o q => k i1 (by simp) o q, h2.move fun o q => k i2 (by simp) o q⟩
  item := by
    intro X hP hw hK hc i pins s σ H E I hf st hg
    subst hP hw hK
    obtain ⟨hz, hTI, ⟨x0, y0, hTO⟩, h1, h2⟩ := st
    obtain ⟨l1, l2, hqx, hqy⟩ := hg
    obtain ⟨its, rv, p, _⟩ := inv_sq I hqx
    obtain ⟨its2, rv2, p2, _⟩ := inv_sq I hqy
    have off : ∀ c, c ∈ [z, TI, TO, i1, i2] → a ≠ c ∧ b ≠ c := fun c hc => ⟨off_sq I (hf c hc) κ hqx, off_sq I (hf c hc) μ hqy⟩
    have S := D.sep (off z (by simp)).1 (off z (by simp)).2 (off TO (by simp)).1 (off TO (by simp)).2 (off i1 (by simp)).2 (off i2 (by simp)).1
    have hx : xs[i]? = some xs[i] := List.getElem?_eq_getElem l1
    have hy : ys[i]? = some ys[i] := List.getElem?_eq_getElem l2
    obtain ⟨u, hu, ru⟩ := rv.get hx
    obtain ⟨u2, hu2, ru2⟩ := rv2.get hy
    have hzl : z < s.heap.objs.size := Heap.lt_size hz
    refine wpAny_pyNext_zipD2_item S (drawsK (prog := X.prog) (w := X.w) (A := X.A.in1) (I.ok.hd hc) i1 a (off i1 (by simp)).1 its.toArray κ) (drawsK (prog := X.prog) (w := X.w) (A := X.A.in1) (I.ok.hd hc) i2 b (off i2 (by simp)).2 its2.toArray μ)
      hz hTI hTO ⟨h1, p⟩ ⟨h2, p2⟩ (by rw [List.size_toArray, ← rv.length]; exact l1) (by rw [List.size_toArray, ← rv2.length]; exact l2) fun v1 v2 h' tk g1 g2 z' TO' st1 st2 hT hsz hk => ?_
    have e1 : v1 = u := by
      have q1 : its[i]? = some v1 := by simpa using g1
      rw [hu] at q1
      exact (Option.some.inj q1).symm
    have e2 : v2 = u2 := by
      have q1 : its2[i]? = some v2 := by simpa using g2
      rw [hu2] at q1
      exact (Option.some.inj q1).symm
    subst e1 e2
    refine ⟨_, rfl, wpAny_letOwnedTupleGo_zip (s := { s with heap := h', toks := tk }) z' fun h'' z'' sb => ?_⟩
    have hT2 : h''.get? s.heap.objs.size = some (tpO [v1, v2]) := (sb.2 _ (Nat.ne_of_gt hzl)).trans hT
    have new : ObjOk X.prog X.w (upd H s.heap.objs.size (.frz (tpO [v1, v2]) (.tup [xs[i], ys[i]]))) h'' s.heap.objs.size (.frz (tpO [v1, v2]) (.tup [xs[i], ys[i]])) :=
      ⟨hT2, by show 2 ≤ sizeLine; decide, [v1, v2], .cons ru (.cons ru2 .nil), ⟨_, hT2, rfl, _, rfl⟩⟩
    have I1 := I.turnedNew (t' := tk) (ch := [z, TI, TO, i1, i2]) (fun c o hb q => (sb.2 c (fun q' => hb (by simp [q']))).trans (hk c o (fun q' => hb (by simp [q'])) (fun q' => hb (by simp [q'])) (fun q' => hb (by simp [q'])) (fun q' => hb (by simp [q'])) q)) hf (Nat.le_refl _) new
    refine ⟨.ref s.heap.objs.size, _, I1, rfl, ⟨_, xs[i], ys[i], _, rfl, I.fresh, rfl, rfl, hx, hy⟩, ⟨z'', ?_, ⟨v1, v2, ?_⟩, ?_, ?_⟩, fun c hcm => ?_⟩
    · exact (sb.2 _ D.zTI).trans (hk _ _ D.zTI D.TITO D.TI1 D.TI2 hTI)
    · exact (sb.2 _ D.zTO).trans TO'
    · exact st1.1.move fun o q => (sb.2 _ (Ne.symm D.z1)).trans q
    · exact st2.1.move fun o q => (sb.2 _ (Ne.symm D.z2)).trans q
    · have hlt : c < s.heap.objs.size := by
        rcases (show c = z ∨ c = TI ∨ c = TO ∨ c = i1 ∨ c = i2 by simpa using hcm) with q | q | q | q | q
        · rw [q]; exact hzl
        · rw [q]; exact Heap.lt_size hTI
        · rw [q]; exact Heap.lt_size hTO
        · rw [q]; obtain ⟨_, e1, _⟩ := h1.get; exact Heap.lt_size e1
        · rw [q]; obtain ⟨_, e2, _⟩ := h2.get; exact Heap.lt_size e2
      rw [upd_ne (Nat.ne_of_lt hlt)]
      exact (hf c hcm).1
  done := by
    intro X hP hw hK hc i pins s σ H E I hf st hg
    subst hP hw hK
    obtain ⟨hz, hTI, ⟨x0, y0, hTO⟩, h1, h2⟩ := st
    obtain ⟨l1, l2, hend, hqx, hqy⟩ := hg
    obtain ⟨its, rv, p, _⟩ := inv_sq I hqx
    obtain ⟨its2, rv2, p2, _⟩ := inv_sq I hqy
    have off : ∀ c, c ∈ [z, TI, TO, i1, i2] → a ≠ c ∧ b ≠ c := fun c hc => ⟨off_sq I (hf c hc) κ hqx, off_sq I (hf c hc) μ hqy⟩
    have S := D.sep (off z (by simp)).1 (off z (by simp)).2 (off TO (by simp)).1 (off TO (by simp)).2 (off i1 (by simp)).2 (off i2 (by simp)).1
    refine wpAny_pyNext_zipD2_end S (drawsK (prog := X.prog) (w := X.w) (A := X.A.in1) (I.ok.hd hc) i1 a (off i1 (by simp)).1 its.toArray κ) (drawsK (prog := X.prog) (w := X.w) (A := X.A.in1) (I.ok.hd hc) i2 b (off i2 (by simp)).2 its2.toArray μ)
      hz hTI hTO ⟨h1, p⟩ ⟨h2, p2⟩ (by rw [List.size_toArray, ← rv.length]; exact l1) (by rw [List.size_toArray, ← rv2.length]; exact l2) (by rw [List.size_toArray, List.size_toArray, ← rv.length, ← rv2.length]; exact hend) fun h' tk hk => ⟨rfl, I.turnedL (t' := tk) (ch := [z, TI, TO, i1, i2]) (fun c o hb q =>
      hk c o (fun q' => hb (by simp [q'])) (fun q' => hb (by simp [q'])) (fun q' => hb (by simp [q'])) (fun q' => hb (by simp [q'])) q) hf⟩
  self := fun A i s Q E st h => wpAny_pyIter_zip st.1 h
def iZp (K : PySem.W.Frag) (ta : TA) : TI := fun σ H R => ta σ H fun vs H1 => ∃ a b xs ys κ μ, vs = [.ref a, .ref b] ∧ SqK K H1 a xs κ ∧ SqK K H1 b ys μ ∧ R (ItZ K a b xs ys κ μ) H1
theorem pi_zp {X : Cx} {e e2 : Expr} {ta : TA} {p pos tpos : Pos} {elts : List Expr} {kk : Nat} (hg : Gl X "zip") (hm : X.mg "zip" = none) (ha : PA X [e, e2] ta)
    (hs : starEach [e, e2] X.env = (false, eval e X.env) :: starEach [e2] X.env) (hpl : (backTo pos (starEach [e2] X.env)).any (·.1) = false) : PI X (.Tuple elts kk tpos) (.Call (.Name "zip" p) [e, e2] [] pos) (iZp X.K ta) := by
  refine ⟨fun pins s σ H R I h => ?_⟩
  refine Call_ (ld_blt I hg hm PyProof.Rows.boot_zip (PyProof.Rows.callWith_type1 (thn (ha.run pos pins s σ H _ I h) fun us s1 ⟨vs, H1, I1, r1, q1⟩ => ?_) hs hpl))
  obtain ⟨a, b, xs, ys, κ, μ, ex, hqx, hqy, q⟩ := q1
  subst ex
  obtain ⟨u, u', rfl, ru, ru'⟩ := vals2 r1
  cases ru
  cases ru'
  obtain ⟨its, rv, p1, _⟩ := inv_sq I1 hqx
  obtain ⟨its2, rv2, p2, _⟩ := inv_sq I1 hqy
  refine zip_begins2 (beginsK a its.toArray κ) (beginsK b its2.toArray μ) p1 p2 fun h' hz hTI hTO g1 g2 hsz hk => wpAny_pyIter_zip hz ?_
  have I2 : L2.Inv X pins σ H1 { s1 with heap := h' } := I1.kept (t' := s1.toks) hk
  have D : ZApart (s1.heap.objs.size + 4) (s1.heap.objs.size + 2) (s1.heap.objs.size + 3) s1.heap.objs.size (s1.heap.objs.size + 1) := by
    constructor <;> (intro h; have h' := congrArg (fun x : Nat => x) h; simp at h')
  refine ⟨s1.heap.objs.size + 4, [s1.heap.objs.size + 4, s1.heap.objs.size + 2, s1.heap.objs.size + 3, s1.heap.objs.size, s1.heap.objs.size + 1], _, _, H1, rfl, I2, turnZ xs ys κ μ D, ⟨hz, hTI, ⟨_, _, hTO⟩, itK g1, itK g2⟩, fun c hcm => ?_, q⟩
  have hle : s1.heap.objs.size ≤ c := by
    have := (show c = s1.heap.objs.size + 4 ∨ c = s1.heap.objs.size + 2 ∨ c = s1.heap.objs.size + 3 ∨ c = s1.heap.objs.size ∨ c = s1.heap.objs.size + 1 by simpa using hcm)
    rcases this with z | z | z | z | z <;> rw [z] <;> first | exact Nat.le_refl _ | exact Nat.le_add_right _ _
  exact I1.fpOk hle (I1.hok.fresh hle)
end Rv

set_option Elab.async false
set_option linter.all false
set_option maxRecDepth 100000
set_option maxHeartbeats 1000000
/-! Rv, part 8: methods, isinstance, dicts, targets, what is walked, comprehensions. -/
namespace Rv
open PySem PySem.Spec PyProof.Rows L2
section
variable {X : Cx} {F : Str → List Vl → Sto → Res (Vl × Sto)} {GL : Str → Option PyData} {pos : Pos} {a b c : Expr} {ia ib ic : E}
/-! ### methods -/
theorem rdy_is {pins : List (Addr × Obj)} {σ : L2.St} {H : Hp} {s : Shared} {x : V} {v : Value} {d : PyData} (I : L2.Inv X pins σ H s) (r : RelV x v) (h : Rdy X.K H x d) (hd : tyD d = "str" ∨ tyD d = "list" ∨ tyD d = "tuple") :
    s.TypeIs v (tyD d) ∧ ∀ a, v = .ref a → ∃ ob, s.heap.get? a = some ob ∧ ob.dict = none := by
  cases d with
  | str z =>
    obtain rfl := h.str
    obtain ⟨t, rfl⟩ := r
    exact ⟨typeIs_str s z t, fun _ e => nomatch e⟩
  | list l =>
    obtain ⟨a, xs, rfl, sa, _⟩ := h.lst
    exact tyV_is (X := X) I r (show tyV X.K "list" (.ref a) H from .inl ⟨rfl, xs, sa⟩)
  | tuple l =>
    obtain ⟨a, xs, rfl, ⟨o, e, hdn⟩, _⟩ := h.tup
    cases r
    obtain ⟨g, _, its, _, ob, g2, hc, _⟩ := I.hok a _ e
    rw [g] at g2
    cases g2
    exact ⟨⟨o, g, hc⟩, fun a' q => by cases q; exact ⟨o, g, hdn⟩⟩
  | none => rcases hd with h | h | h <;> exact absurd h (by decide)
  | bool z => simp only [tyD] at hd; rcases hd with h | h | h <;> exact absurd h (by decide)
  | int z => simp only [tyD] at hd; rcases hd with h | h | h <;> exact absurd h (by decide)
  | dict z => simp only [tyD] at hd; rcases hd with h | h | h <;> exact absurd h (by decide)
/-- a method's call, once the receiver's kind is known -/
theorem mth_run {o e : Expr} {es : List Expr} {io ie : E} {name : Str} {apos cpos : Pos} {T id : String} {g : PyData → List PyData → Option PyData} {P : PyData → Bool} (pa : PlainAttrs T) (slot : PySem.Slot T name id) (hty : typeOf (.builtin id) = pure (.type "method_descriptor")) (hm : MtR X id (rMt X.K g P))
    (ho : PE X o (TDv F GL X.K io)) (ha : PA X (e :: es) (TRv F GL X.K ie)) (hbase : attributeBase o name X.env (eval o X.env) = eval o X.env)
    (hfew : ((backTo cpos (starEach (e :: es) X.env)).all (fun x => !x.1) && (backToKw cpos (keywordEach [] X.env)).all (fun x => x.1.isSome) && decide ((e :: es).length + ([] : List Keyword).length + (if ([] : List Keyword).isEmpty then 0 else 1) < 30)) = true)
    (hline : (apos.endLine == cpos.line) = true) (hs : starEach (e :: es) X.env = (false, eval e X.env) :: starEach es X.env) (hplain : (backTo cpos (starEach es X.env)).any (·.1) = false) (hgd : ∀ x xs, mthD name x xs = g x xs) (hT : T = "str" ∨ T = "list" ∨ T = "tuple")
    {pins : List (Addr × Obj)} {s : Shared} {σ : L2.St} {H : Hp} {Q : VK} (I : L2.Inv X pins σ H s) {ι : List Addr} {en : En} {st st1 st2 : Sto} {d z : PyData} {ds : List PyData} (R : RelEn X.K ι en σ H) (S : RelS X.K ι st H) (e1 : toD (evE F GL io en st) = .ok (d, st1)) (hd : tyD d = T) (hp : P d = true) (e2 : evR F GL ie en st1 = .ok (ds, st2))
    (e3 : mthD name d ds = some z) (q : ∀ ι' v H', ι <+: ι' → RelS X.K ι' st2 H' → At X.K H' v z → Ext H H' → Q v H') :
    wpAny (model X.prog X.w) X.A (eval (.Call (.Attribute o name apos) (e :: es) [] cpos) X.env) (EP X pins σ Q) X.xe s := by
  refine wpAny_Call_method_late hbase hfew hline rfl (thn (ho.run pins s σ H (fun x H1 => ∃ ι1, ι <+: ι1 ∧ RelS X.K ι1 st1 H1 ∧ Rdy X.K H1 x d ∧ Ext H H1) I ⟨ι, en, st, d, st1, R, S, e1, fun ι1 v H1 p1 S1 a1 x1 => ⟨ι1, p1, S1, a1, x1⟩⟩) fun v s1 ⟨x, H1, I1, r1, ι1, p1, S1, a1, x1⟩ => ?_)
  obtain ⟨h1, h2⟩ := rdy_is I1 r1 a1 (hd ▸ hT)
  rw [hd] at h1
  refine ⟨T, id, pa, slot, hty, h1, h2, ?_⟩
  have hA := ha.run cpos pins s1 σ H1 (fun vs H2 => ∃ ι2, ι1 <+: ι2 ∧ RelS X.K ι2 st2 H2 ∧ RdyL X.K H2 vs ds ∧ Ext H1 H2) I1 ⟨ι1, en, st1, ds, st2, R.ext p1 x1, S1, e2, fun ι2 vs H2 p2 S2 a2 x2 => ⟨ι2, p2, S2, a2, x2⟩⟩
  rw [hs] at hA ⊢
  refine Calls.callWith_builtin (by show (false || (backTo cpos (starEach es X.env)).any (·.1)) = false; rw [hplain] <;> rfl) (Calls.evalArgs_plain ?_)
  refine thn hA fun us s2 ⟨vs, H2, I2, r2, ι2, p2, S2, a2, x2⟩ => hm pins s2 σ H2 x vs v us Q I2 r1 r2 ?_
  exact ⟨d, ds, z, hp, a1.ext x2, a2, by rw [← hgd]; exact e3, fun w H3 sm at3 => q ι2 w H3 (p1.trans p2) (S2.same sm) at3 ((x1.trans x2).trans (Same.ext' sm))⟩
theorem mth_open {m : Str} {io ie : E} {en : En} {st st' : Sto} {r : Vl} (e : evE F GL (.mth m io ie) en st = .ok (r, st')) : ∃ d st1 ds z, toD (evE F GL io en st) = .ok (d, st1) ∧ evR F GL ie en st1 = .ok (ds, st') ∧ mthD m d ds = some z ∧ r = .dat z := by
  simp only [evE] at e
  obtain ⟨⟨x, st1⟩, e1, e2⟩ := Res.bind_ok e
  obtain ⟨⟨xs, st2⟩, e3, e4⟩ := Res.bind_ok e2
  cases hz : mthD m x xs with
  | none => simp only [hz] at e4; cases e4
  | some z =>
    simp only [hz] at e4
    cases e4
    exact ⟨x, st1, xs, z, e1, e3, hz, rfl⟩
theorem mth_count (x : PyData) (xs : List PyData) : mthD "count" x xs = countD x xs := by unfold mthD; rw [if_pos rfl]
theorem mth_index (x : PyData) (xs : List PyData) : mthD "index" x xs = indexD x xs := by unfold mthD; rw [if_neg (by decide), if_pos rfl]
theorem mth_join (x : PyData) (xs : List PyData) : mthD "join" x xs = joinD x xs := by unfold mthD; rw [if_neg (by decide), if_neg (by decide), if_pos rfl]
theorem mth_other {m : Str} (h1 : m ≠ "count") (h2 : m ≠ "index") (h3 : m ≠ "join") (x : PyData) (xs : List PyData) : mthD m x xs = none := by unfold mthD; rw [if_neg h1, if_neg h2, if_neg h3]
theorem qe_mth {o e : Expr} {es : List Expr} {io ie : E} {m : Str} {apos cpos : Pos} (ho : PE X o (TEv F GL X.K io)) (ha : PA X (e :: es) (TRv F GL X.K ie)) (hbase : attributeBase o m X.env (eval o X.env) = eval o X.env)
    (hfew : ((backTo cpos (starEach (e :: es) X.env)).all (fun x => !x.1) && (backToKw cpos (keywordEach [] X.env)).all (fun x => x.1.isSome) && decide ((e :: es).length + ([] : List Keyword).length + (if ([] : List Keyword).isEmpty then 0 else 1) < 30)) = true)
    (hline : (apos.endLine == cpos.line) = true) (hs : starEach (e :: es) X.env = (false, eval e X.env) :: starEach es X.env) (hplain : (backTo cpos (starEach es X.env)).any (·.1) = false) :
    PE X (.Call (.Attribute o m apos) (e :: es) [] cpos) (TEv F GL X.K (.mth m io ie)) := by
  refine ⟨fun pins s σ H Q I h => ?_⟩
  obtain ⟨ι, en, st, r, st', R, S, e0, q⟩ := h
  obtain ⟨d, st1, ds, z, e1, e2, e3, rfl⟩ := mth_open e0
  have q' : ∀ ι' v H', ι <+: ι' → RelS X.K ι' st' H' → At X.K H' v z → Ext H H' → Q v H' := fun ι' v H' p S' a x => q ι' v H' p S' a x
  by_cases h1 : m = "count"
  · subst h1
    rw [mth_count] at e3
    have hk : isS d = true ∨ isL d = true := by
      cases d <;> first | exact .inl rfl | exact .inr rfl | (simp only [countD, reduceCtorEq] at e3)
    rcases hk with hd | hd
    · have ht : tyD d = "str" := by cases d <;> first | rfl | cases hd
      exact mth_run PySem.F.plainAttrs_str PySem.F.slot_str_count PySem.F.type_str_count mm_count (qd ho) ha hbase hfew hline hs hplain mth_count (.inl rfl) I R S e1 ht hd e2 (by rw [mth_count]; exact e3) q'
    · have ht : tyD d = "list" := by cases d <;> first | rfl | cases hd
      exact mth_run PySem.F.plainAttrs_list PySem.F.slot_list_count PySem.F.type_list_count mm_count_list (qd ho) ha hbase hfew hline hs hplain mth_count (.inr (.inl rfl)) I R S e1 ht hd e2 (by rw [mth_count]; exact e3) q'
  · by_cases h2 : m = "index"
    · subst h2
      rw [mth_index] at e3
      have hk : isS d = true ∨ isL d = true ∨ isT d = true := by
        cases d <;> first | exact .inl rfl | exact .inr (.inl rfl) | exact .inr (.inr rfl) | (simp only [indexD, reduceCtorEq] at e3)
      rcases hk with hd | hd | hd
      · have ht : tyD d = "str" := by cases d <;> first | rfl | cases hd
        exact mth_run PySem.F.plainAttrs_str PySem.F.slot_str_index PySem.F.type_str_index mm_index_str (qd ho) ha hbase hfew hline hs hplain mth_index (.inl rfl) I R S e1 ht hd e2 (by rw [mth_index]; exact e3) q'
      · have ht : tyD d = "list" := by cases d <;> first | rfl | cases hd
        exact mth_run PySem.F.plainAttrs_list PySem.F.slot_list_index PySem.F.type_list_index mm_index_list (qd ho) ha hbase hfew hline hs hplain mth_index (.inr (.inl rfl)) I R S e1 ht hd e2 (by rw [mth_index]; exact e3) q'
      · have ht : tyD d = "tuple" := by cases d <;> first | rfl | cases hd
        exact mth_run PySem.F.plainAttrs_tuple PySem.F.slot_tuple_index PySem.F.type_tuple_index mm_index_tup (qd ho) ha hbase hfew hline hs hplain mth_index (.inr (.inr rfl)) I R S e1 ht hd e2 (by rw [mth_index]; exact e3) q'
    · by_cases h3 : m = "join"
      · subst h3
        rw [mth_join] at e3
        have hd : isS d = true := by
          cases d <;> first | rfl | (simp only [joinD, reduceCtorEq] at e3)
        have ht : tyD d = "str" := by cases d <;> first | rfl | cases hd
        exact mth_run PySem.F.plainAttrs_str PySem.F.slot_str_join PySem.F.type_str_join mm_join (qd ho) ha hbase hfew hline hs hplain mth_join (.inl rfl) I R S e1 ht hd e2 (by rw [mth_join]; exact e3) q'
      · rw [mth_other h1 h2 h3] at e3
        cases e3
/-! ### isinstance -/
theorem qe_isi {t : String} {p p2 : Pos} {tx : Str} (ha : PE X a (TEv F GL X.K ia)) (hg : Gl X "isinstance") (hm : X.mg "isinstance" = none) (hgt : Gl X tx) (hmt : X.mg tx = none) (hbt : bootBuiltins tx = some (.type t)) (hnt : tx ≠ "__name__") (hdt : (tx == ("__debug__" : Str)) = false)
    (he : starEach (a :: [.Name tx p2]) X.env = (false, eval a X.env) :: starEach [.Name tx p2] X.env) : PE X (.Call (.Name "isinstance" p) [a, .Name tx p2] [] pos) (TEv F GL X.K (.isi ia t)) := by
  refine pe_imp (pe_callB (bf_isi t) hg hm (show bootBuiltins "isinstance" = some (.builtin "isinstance") by decide +kernel) (pa_cons (qd ha) (pa_cons (pe_bltn (v := .ty t) hgt hmt hbt rfl hnt hdt) pa_nil (by rfl)) he) (by decide) (by decide) he (by rfl)) fun σ H Q ⟨ι, en, st, r, st', R, S, e, q⟩ => ?_
  simp only [evE] at e
  obtain ⟨⟨x, st1⟩, e1, e2⟩ := Res.bind_ok e
  refine ⟨ι, en, st, x, st1, R, S, e1, fun ι1 v H1 p1 S1 a1 x1 => ?_⟩
  cases hz : isiD x t with
  | none => simp only [hz] at e2; cases e2
  | some z =>
    simp only [hz] at e2
    cases e2
    exact ⟨v, x, z, rfl, a1, hz, q ι1 _ H1 p1 S1 (.bl _) x1⟩
end
end Rv

set_option Elab.async false
set_option linter.all false
set_option maxRecDepth 100000
set_option maxHeartbeats 1000000
/-! Rv, part 9: dicts, targets, what is walked, comprehensions. -/
namespace Rv
open PySem PySem.Spec PyProof.Rows L2
section
variable {X : Cx} {F : Str → List Vl → Sto → Res (Vl × Sto)} {GL : Str → Option PyData} {pos : Pos} {a b c : Expr} {ia ib ic : E}
/-! ### dicts -/
theorem KVs.find {K : PySem.W.Frag} {H : Hp} {k : Str} {d : PyData} : ∀ {kvs : List (Str × PyData)} {ws : List (Key × V)}, KVs K H kvs ws → (kvs.find? fun p => p.1 == k).map (·.2) = some d → ∃ v, valV ws (Sum.inr k) = some v ∧ At K H v d
  | _, _, .nil, e => by cases e
  | p :: r, q :: t, .cons h hr, e => by
    rw [List.find?_cons] at e
    by_cases hk : p.1 = k
    · have : (p.1 == k) = true := by rw [hk]; exact beq_self_eq_true k
      rw [this] at e
      cases e
      exact ⟨q.2, valV_pos (by rw [h.1, hk]), h.2⟩
    · have : (p.1 == k) = false := beq_eq_false_iff_ne.mpr hk
      rw [this] at e
      obtain ⟨v, h1, h2⟩ := KVs.find hr e
      exact ⟨v, by rw [valV_neg (by rw [h.1]; exact fun z => hk (Sum.inr.inj z))]; exact h1, h2⟩
theorem slot_dic {K : PySem.W.Frag} {ι : List Addr} {en : En} {σ : L2.St} {H : Hp} {st : Sto} {i n : Nat} {kvs : List (Str × PyData)} (R : RelEn K ι en σ H) (S : RelS K ι st H) (h : getS en i = some (.val (.dic n))) (hk : st[n]? = some kvs) :
    ∃ a ws, σ[i]? = some (some (.ref a)) ∧ ι[n]? = some a ∧ H a = some (.dK ws) ∧ KVs K H kvs ws ∧ (kvs.map (·.1)).Nodup := by
  obtain ⟨v, h1, a, h2, rfl⟩ := R.2 i _ h
  obtain ⟨ws, h3, h4, h5⟩ := S.at_ n a kvs h2 hk
  exact ⟨a, ws, h1, h2, h3, h4, h5⟩
theorem qe_dget {i : Nat} {x k : Str} {p p2 : Pos} {j : Nat} (hu : X.A.units + 1 < cLine) (hN : X.N[i]? = some x) (hv : Vis X.env.scope x) (hd : (x == ("__debug__" : Str)) = false) (hcd : (x == ("__classdict__" : Str)) = false) :
    PE X (.Subscript (.Name x p) (.Constant (.str k) j p2) pos) (TEv F GL X.K (.dget i k)) := by
  refine pe_imp (pe_dget hu (pe_var hN hv hd hcd) pe_str (fun _ _ => rfl)) fun σ H Q ⟨ι, en, st, r, st', R, S, e, q⟩ => ?_
  simp only [evE] at e
  split at e
  · rename_i n hg
    split at e
    · rename_i d hd
      cases e
      unfold dGet at hd
      split at hd
      · rename_i kvs hk
        obtain ⟨a, ws, h1, h2, h3, h4, h5⟩ := slot_dic R S hg hk
        obtain ⟨v, h6, h7⟩ := h4.find hd
        refine ⟨.ref a, h1, a, v, rfl, ?_, q ι v H (List.prefix_refl _) S h7 (Ext.refl H)⟩
        rw [← h6]
        exact DGet.k (k := Sum.inr k) h3
      · cases hd
    · cases e
  · cases e
theorem nodup_at {α : Type} {N : List α} (hN : N.Nodup) {i j : Nat} {x : α} (p : N[i]? = some x) (q : N[j]? = some x) : i = j := by
  have h1 := (List.getElem?_eq_some_iff.mp p).1
  exact (List.getElem?_inj h1 hN).mp (p.trans q.symm)
theorem merge_new : ∀ (kvs acc : List (Key × V)), (acc ++ kvs).map (·.1) |>.Nodup → mergeK acc kvs = acc ++ kvs
  | [], acc, _ => (List.append_nil acc).symm
  | p :: r, acc, h => by
    have hn : valV acc p.1 = none := by
      have h2 := h
      rw [List.map_append, List.nodup_append] at h2
      have h3 := h2.2.2
      unfold valV
      rw [Option.map_eq_none_iff, List.find?_eq_none]
      intro z hz
      rw [decide_eq_true_eq]
      exact fun e => h3 z.1 (List.mem_map_of_mem hz) p.1 (by simp) e
    show mergeK (L2.putK acc p.1 p.2) r = acc ++ p :: r
    rw [putK_new p.2 hn, merge_new r (acc ++ [(p.1, p.2)]) (by simpa using h)]
    simp
/-- the values of a display with written keys -/
def TDs (F : Str → List Vl → Sto → Res (Vl × Sto)) (GL : Str → Option PyData) (K : PySem.W.Frag) : List Str → E → List (TE × TE)
  | k :: ks, .cons a r => (tC (.str k), TEv F GL K a) :: TDs F GL K ks r
  | _, _ => []
theorem disp_run {K : PySem.W.Frag} {σ : L2.St} {en : En} : ∀ (ks : List Str) (ie : E) {H : Hp} {ι : List Addr} {st : Sto} {rs : List Vl} {st' : Sto} {Q : List (V × V) → Hp → Prop}, RelEn K ι en σ H → RelS K ι st H → evL F GL ie en st = .ok (rs, st') → ks.length = rs.length →
    (∀ ι' vs H', ι <+: ι' → RelS K ι' st' H' → AtVs K ι' H' vs rs → Ext H H' → Q (List.zipWith (fun k v => (V.str k, v)) ks vs) H') → tPairs (TDs F GL K ks ie) σ H Q := by
  intro ks
  induction ks with
  | nil =>
    intro ie H ι st rs st' Q R S e hl q
    cases rs with
    | cons x xs => cases hl
    | nil =>
      cases ie with
      | nil =>
        simp only [evL] at e
        cases e
        exact q ι [] H (List.prefix_refl _) S .nil (Ext.refl H)
      | cons a r =>
        simp only [evL] at e
        split at e
        · cases e
        · obtain ⟨⟨x, st1⟩, e1, e2⟩ := Res.bind_ok e
          obtain ⟨⟨xs, st2⟩, e3, e4⟩ := Res.bind_ok e2
          cases e4
      | _ => simp only [evL] at e; cases e
  | cons k ks ih =>
    intro ie H ι st rs st' Q R S e hl q
    cases ie with
    | cons a r =>
      simp only [evL] at e
      split at e
      · cases e
      · rename_i ho
        rw [Bool.not_eq_true] at ho
        obtain ⟨⟨x, st1⟩, e1, e2⟩ := Res.bind_ok e
        obtain ⟨⟨xs, st2⟩, e3, e4⟩ := Res.bind_ok e2
        cases e4
        refine ⟨ι, en, st, x, st1, R, S, e1, fun ι1 v H1 p1 S1 a1 x1 => ?_⟩
        rw [ho] at a1
        exact ih r (R.ext p1 x1) S1 e3 (by simpa using hl) fun ι2 vs H2 p2 S2 a2 x2 => q ι2 (v :: vs) H2 (p1.trans p2) S2 (.cons (AtV.ext a1 p2 x2) a2) (x1.trans x2)
    | nil =>
      simp only [evL] at e
      cases e
      cases hl
    | _ => simp only [evL] at e; cases e
theorem KVs.zip {K : PySem.W.Frag} {H : Hp} : ∀ {ks : List Str} {ds : List PyData} {vs : List V}, AtL K H vs ds → KVs K H (ks.zip ds) (List.zipWith (fun k v => (Sum.inr k, v)) ks vs)
  | [], _, _, _ => .nil
  | _ :: _, [], _, .nil => .nil
  | k :: ks, d :: ds, _, .cons a b => .cons ⟨rfl, a⟩ (KVs.zip b)
theorem qe_dnew {keys : List (Option Expr)} {values : List Expr} {ks : List Str} {ie : E} (h : PPs X pos keys values (TDs F GL X.K ks ie)) (hall : keys.all (·.isSome) = true) (hl : keys.length = values.length) (h0 : keys ≠ []) (h15 : keys.length ≤ 15) :
    PE X (.Dict keys values pos) (TEv F GL X.K (.dnew ks ie)) := by
  refine pe_imp (pe_disp h hall hl h0 h15) fun σ H Q ⟨ι, en, st, r, st', R, S, e, q⟩ => ?_
  simp only [evE] at e
  obtain ⟨⟨xs, st1⟩, e1, e2⟩ := Res.bind_ok e
  split at e2
  · rename_i ds hd hs
    split at e2
    · rename_i hz
      cases e2
      intro p hp
      have hpι : p ∉ ι := fun hm => by
        obtain ⟨k, hk1, hk2⟩ := List.getElem_of_mem hm
        have hk : ι[k]? = some p := by rw [List.getElem?_eq_getElem hk1, hk2]
        have hlt : k < st.length := by rw [← S.len]; exact hk1
        obtain ⟨ws, g, _⟩ := S.at_ k p st[k] hk (List.getElem?_eq_getElem hlt)
        rw [hp] at g
        cases g
      have S0 : RelS X.K (ι ++ [p]) (st ++ [[]]) (upd H p (.dK [])) := by
        refine ⟨by simp [S.len], ?_, fun k a kvs h1 h2 => ?_⟩
        · rw [List.nodup_append]
          exact ⟨S.nod, by simp, fun x hx y hy e => hpι (by simp at hy; rw [← hy, ← e]; exact hx)⟩
        · by_cases hk : k < ι.length
          · rw [List.getElem?_append_left hk] at h1
            rw [List.getElem?_append_left (by rw [← S.len]; exact hk)] at h2
            obtain ⟨ws, g1, g2, g3⟩ := S.at_ k a kvs h1 h2
            exact ⟨ws, by rw [upd_ne (ne_of_none g1 hp)]; exact g1, g2.pst (Ext.new hp).pst, g3⟩
          · have hk2 : k = ι.length := by
              have := (List.getElem?_eq_some_iff.mp h1).1
              simp at this
              omega
            subst hk2
            simp at h1
            have h2' : kvs = [] := by
              rw [S.len] at h2
              simp at h2
              exact h2
            subst h2' h1
            exact ⟨[], upd_same, .nil, .nil⟩
      have hlen : ks.length = xs.length := by
        have : ∀ (xs : List Vl) (ds : List PyData), dats xs = some ds → xs.length = ds.length := fun xs => by
          induction xs with
          | nil => intro ds e; cases e; rfl
          | cons x r ih =>
            intro ds e
            cases x with
            | dat d =>
              simp only [dats, Option.map_eq_some_iff] at e
              obtain ⟨m, e1, rfl⟩ := e
              simp [ih m e1]
            | dic k => cases e
        rw [this xs ds hd]
        exact hz.1
      refine disp_run ks ie ((R.ext (List.prefix_refl _) (Ext.new hp)).ext (List.prefix_append ι [p]) (Ext.refl _)) S0 e1 hlen fun ι1 vs H1 p1 S1 a1 x1 => ?_
      have hι : ι1[st.length]? = some p := by
        obtain ⟨t, rfl⟩ := p1
        rw [← S.len, List.append_assoc, List.getElem?_append_right (Nat.le_refl _)]
        simp
      obtain ⟨ws, g1, g2, g3⟩ := S1.at_ st.length p [] hι hs
      cases g2
      have al := a1.dats hd
      have hlv : vs.length = ks.length := by rw [al.length]; exact hz.1.symm
      refine ⟨g1, List.zipWith (fun k v => (Sum.inr k, v)) ks vs, ?_, by simp [hlv]; exact hz.2.2, ?_⟩
      · rw [List.map_zipWith]
        rfl
      · have hkeys : (List.zipWith (fun (k : Str) (v : V) => ((Sum.inr k : Key), v)) ks vs).map (·.1) = ks.map Sum.inr := by
          rw [List.map_zipWith]
          clear g1 S1 a1 x1 al
          have : ∀ (ks : List Str) (vs : List V), vs.length = ks.length → List.zipWith (fun (k : Str) (v : V) => (Sum.inr k : Key)) ks vs = ks.map Sum.inr := fun ks => by
            induction ks with
            | nil => intro vs _; rfl
            | cons k ks ih =>
              intro vs h
              cases vs with
              | nil => cases h
              | cons v vs => simp [ih vs (by simpa using h)]
          exact this ks vs hlv
        have hnd : ((List.zipWith (fun (k : Str) (v : V) => ((Sum.inr k : Key), v)) ks vs).map (·.1)).Nodup := by
          rw [hkeys]
          exact List.Pairwise.map _ (fun _ _ h e => h (Sum.inr.inj e)) hz.2.1
        rw [merge_new _ [] (by simpa using hnd), List.nil_append]
        have hsl : st.length < st1.length := (List.getElem?_eq_some_iff.mp hs).1
        refine q ι1 _ _ ((List.prefix_append ι [p]).trans p1) ⟨by rw [List.length_set]; exact S1.len, S1.nod, fun k a kvs h1 h2 => ?_⟩ ⟨p, hι, rfl⟩ (((Ext.new hp).trans x1).trans (Ext.dict g1))
        by_cases hk : k = st.length
        · subst hk
          rw [hι] at h1
          cases h1
          rw [List.getElem?_set_self hsl] at h2
          cases h2
          refine ⟨_, upd_same, (KVs.zip al).pst (Ext.dict g1).pst, ?_⟩
          have : (ks.zip ds).map (·.1) = ks := by
            rw [List.map_fst_zip]
            omega
          rw [this]
          exact hz.2.1
        · rw [List.getElem?_set_ne (Ne.symm hk)] at h2
          obtain ⟨ws, g4, g5, g6⟩ := S1.at_ k a kvs h1 h2
          have hne : a ≠ p := fun e => by
            subst e
            exact hk (nodup_at S1.nod h1 hι)
          exact ⟨ws, by rw [upd_ne hne]; exact g4, g5.pst (Ext.dict g1).pst, g6⟩
    · cases e2
  · cases e2
end
end Rv

set_option Elab.async false
set_option linter.all false
set_option maxRecDepth 100000
set_option maxHeartbeats 1000000
/-! Rv, part A: targets, what is walked, comprehensions. -/
namespace Rv
open PySem PySem.Spec PyProof.Rows L2
def slotsG : G → List Nat
  | .nm i => [i]
  | .tp g => slotsG g
  | .nil => []
  | .cons a r => slotsG a ++ slotsG r
theorem getS_set {en : En} {i j : Nat} {s : Option Slot} (h : i < en.length) : getS (en.set i s) j = if j = i then s else getS en j := by
  unfold getS
  by_cases e : j = i
  · subst e
    rw [List.getElem?_set_self h, if_pos rfl]
    rfl
  · rw [List.getElem?_set_ne (Ne.symm e), if_neg e]
mutual
theorem bindG_spec : ∀ (g : G) (d : PyData) (en en' : En), bindG g d en = some en' → en'.length = en.length ∧ (∀ j, j ∉ slotsG g → getS en' j = getS en j) ∧ ∀ j, j ∈ slotsG g → ∃ v, getS en' j = some (.val v)
  | .nm i, d, en, en', h => by
    unfold bindG at h
    split at h
    · rename_i hi
      cases h
      refine ⟨List.length_set .., fun j hj => ?_, fun j hj => ?_⟩
      · rw [getS_set hi, if_neg (by simpa [slotsG] using hj)]
      · have : j = i := by simpa [slotsG] using hj
        subst this
        exact ⟨_, by rw [getS_set hi, if_pos rfl]⟩
    · cases h
  | .tp g, .tuple l, en, en', h => by
    have h' : bindG.bindGs g l en = some en' := by simpa only [bindG] using h
    exact bindGs_spec g l en en' h'
  | .tp g, .none, en, en', h => by simp [bindG] at h
  | .tp g, .bool _, en, en', h => by simp [bindG] at h
  | .tp g, .int _, en, en', h => by simp [bindG] at h
  | .tp g, .str _, en, en', h => by simp [bindG] at h
  | .tp g, .list _, en, en', h => by simp [bindG] at h
  | .tp g, .dict _, en, en', h => by simp [bindG] at h
  | .nil, d, en, en', h => by simp [bindG] at h
  | .cons _ _, d, en, en', h => by simp [bindG] at h
theorem bindGs_spec : ∀ (g : G) (l : List PyData) (en en' : En), bindG.bindGs g l en = some en' → en'.length = en.length ∧ (∀ j, j ∉ slotsG g → getS en' j = getS en j) ∧ ∀ j, j ∈ slotsG g → ∃ v, getS en' j = some (.val v)
  | .nil, [], en, en', h => by
    simp only [bindG.bindGs] at h
    cases h
    exact ⟨rfl, fun _ _ => rfl, fun j hj => by simp [slotsG] at hj⟩
  | .cons a r, x :: l, en, en', h => by
    simp only [bindG.bindGs] at h
    split at h
    · rename_i en1 h1
      obtain ⟨p1, p2, p3⟩ := bindG_spec a x en en1 h1
      obtain ⟨q1, q2, q3⟩ := bindGs_spec r l en1 en' h
      refine ⟨q1.trans p1, fun j hj => ?_, fun j hj => ?_⟩
      · simp only [slotsG, List.mem_append, not_or] at hj
        rw [q2 j hj.2, p2 j hj.1]
      · by_cases hr : j ∈ slotsG r
        · exact q3 j hr
        · simp only [slotsG, List.mem_append] at hj
          rw [q2 j hr]
          exact p3 j (hj.resolve_right hr)
    · cases h
  | .nil, _ :: _, en, en', h => by simp [bindG.bindGs] at h
  | .cons _ _, [], en, en', h => by simp [bindG.bindGs] at h
  | .nm _, _, en, en', h => by simp [bindG.bindGs] at h
  | .tp _, _, en, en', h => by simp [bindG.bindGs] at h
end
section
variable {X : Cx} {F : Str → List Vl → Sto → Res (Vl × Sto)} {GL : Str → Option PyData} {pos : Pos} {a b c : Expr} {ia ib ic : E}
/-! ### targets -/
def TGv (K : PySem.W.Frag) (g : G) : TG := fun v σ H Q => ∃ ι en d en', RelEn K ι en σ H ∧ At K H v d ∧ bindG g d en = some en' ∧
  ∀ σ', RelEn K ι en' σ' H → σ'.length = σ.length → (∀ j, j ∉ slotsG g → σ'[j]? = σ[j]?) → Q σ' H
def TGs' (K : PySem.W.Frag) (g : G) : TGs := fun vs σ H Q => ∃ ι en ds en', RelEn K ι en σ H ∧ AtL K H vs ds ∧ bindG.bindGs g ds en = some en' ∧
  ∀ σ', RelEn K ι en' σ' H → σ'.length = σ.length → (∀ j, j ∉ slotsG g → σ'[j]? = σ[j]?) → Q σ' H
theorem pg_imp {e : Expr} {t t' : TG} (h : PG X e t) (i : ∀ v σ H Q, t' v σ H Q → t v σ H Q) : PG X e t' := ⟨fun pins s σ H v u Q I r hq => h.run pins s σ H v u Q I r (i v σ H Q hq)⟩
theorem pgs_imp {e : List Expr} {t t' : TGs} (h : PGs X e t) (i : ∀ v σ H Q, t' v σ H Q → t v σ H Q) : PGs X e t' := ⟨fun pins s σ H v u Q I r hq => h.run pins s σ H v u Q I r (i v σ H Q hq)⟩
/-- a slot gets a value -/
theorem RelEn.set {K : PySem.W.Frag} {ι : List Addr} {en : En} {σ : L2.St} {H : Hp} {i : Nat} {s : Slot} {v : V} (R : RelEn K ι en σ H) (hi : i < en.length) (r : SlotRel K ι H v s) : RelEn K ι (en.set i (some s)) (σ.set i (some v)) H := ⟨by rw [List.length_set, List.length_set]; exact R.1, fun j s' h => by
  rw [getS_set hi] at h
  by_cases e : j = i
  · subst e
    rw [if_pos rfl] at h
    cases h
    exact ⟨v, List.getElem?_set_self (by have := R.1; omega), r⟩
  · rw [if_neg e] at h
    obtain ⟨w, h1, h2⟩ := R.2 j s' h
    exact ⟨w, by rw [List.getElem?_set_ne (Ne.symm e)]; exact h1, h2⟩⟩
theorem qg_name {i : Nat} {x : Str} (hN : X.N.Nodup) (hi : X.N[i]? = some x) (hx : Loc X.env.scope x) (hf : X.fn x = true ∨ X.env.scope.names.lookup x = some .local) : PG X (.Name x pos) (TGv X.K (.nm i)) := by
  refine pg_imp (pg_name hN hi hx hf) fun v σ H Q ⟨ι, en, d, en', R, ad, e, q⟩ => ?_
  simp only [bindG] at e
  split at e
  · rename_i hlt
    cases e
    exact q _ (R.set hlt (s := .val (.dat d)) ad) (List.length_set ..) fun j hj => List.getElem?_set_ne (fun z => hj (by simp [slotsG, z]))
  · cases e
theorem qgs_nil : PGs X [] (TGs' X.K .nil) := by
  refine pgs_imp pgs_nil fun v σ H Q ⟨ι, en, ds, en', R, ad, e, q⟩ => ?_
  cases ds with
  | nil =>
    simp only [bindG.bindGs] at e
    cases e
    cases ad
    exact ⟨rfl, q σ R rfl fun _ _ => rfl⟩
  | cons x l => simp [bindG.bindGs] at e
theorem qgs_cons {e : Expr} {es : List Expr} {g r : G} (h1 : PG X e (TGv X.K g)) (h2 : PGs X es (TGs' X.K r)) (hs : (assignEach (e :: es) X.env).map (·.2) = assign e X.env :: (assignEach es X.env).map (·.2)) : PGs X (e :: es) (TGs' X.K (.cons g r)) := by
  refine pgs_imp (pgs_cons h1 h2 hs) fun v σ H Q ⟨ι, en, ds, en', R, ad, e, q⟩ => ?_
  cases ds with
  | nil => simp [bindG.bindGs] at e
  | cons x l =>
    simp only [bindG.bindGs] at e
    split at e
    · rename_i en1 e1
      cases ad with
      | cons a1 a2 =>
        refine ⟨_, _, rfl, ι, en, x, en1, R, a1, e1, fun σ1 R1 l1 k1 => ?_⟩
        refine ⟨ι, en1, l, en', R1, a2, e, fun σ2 R2 l2 k2 => q σ2 R2 (l2.trans l1) fun j hj => ?_⟩
        simp only [slotsG, List.mem_append, not_or] at hj
        rw [k2 j hj.2, k1 j hj.1]
    · cases e
theorem qg_tup {es : List Expr} {k : Nat} {g : G} (hc : X.calm = true) (h : PGs X es (TGs' X.K g)) (hst : (assignEach es X.env).findIdx? (·.1) = none) (hlen : ∀ ds en en', bindG.bindGs g ds en = some en' → ds.length = (assignEach es X.env).length) : PG X (.Tuple es k pos) (TGv X.K (.tp g)) := by
  refine pg_imp (pg_tup hc h rfl hst) fun v σ H Q ⟨ι, en, d, en', R, ad, e, q⟩ => ?_
  cases ad with
  | @tup a xs ds ht al =>
    have e' : bindG.bindGs g ds en = some en' := by simpa only [bindG] using e
    refine ⟨_, _, rfl, ht.sq, by rw [al.length]; exact hlen _ _ _ e', ι, en, _, en', R, al, e', fun σ' R' l' k' => q σ' R' l' fun j hj => k' j (by simpa only [slotsG] using hj)⟩
  | _ => simp [bindG] at e

/-! ### what is walked -/
def ItRel (K : PySem.W.Frag) (H0 : Hp) (J : It) (xs : List PyData) : Prop := ∀ H, Pst H0 H → (∀ i, i < xs.length → J.go i H) ∧ J.stop xs.length H ∧ ∀ i v H2, i < xs.length → J.yld i H v H2 → Same H H2 ∧ ∃ d, xs[i]? = some d ∧ At K H2 v d
def TIv (F : Str → List Vl → Sto → Res (Vl × Sto)) (GL : Str → Option PyData) (K : PySem.W.Frag) (it : E) : TI := fun σ H R => ∃ ι en st xs st', RelEn K ι en σ H ∧ RelS K ι st H ∧ evI F GL it en st = .ok (xs, st') ∧
  ∀ ι' J H', ι <+: ι' → RelS K ι' st' H' → Ext H H' → ItRel K H' J xs → R J H'
theorem pi_imp {tg e : Expr} {t t' : TI} (h : PI X tg e t) (i : ∀ σ H R, t' σ H R → t σ H R) : PI X tg e t' := ⟨fun pins s σ H R I hq => h.run pins s σ H R I (i σ H R hq)⟩
theorem it_list {K : PySem.W.Frag} {H0 : Hp} {a : Addr} {vs : List V} {ds : List PyData} (hf : FzL K H0 a vs) (al : AtL K H0 vs ds) : ItRel K H0 (Itl K a) ds := fun H p => by
  have sq : SqL K H a vs := (p.fzL hf).sq
  refine ⟨fun i hi => ?_, ⟨vs, sq, by rw [al.length]; exact Nat.le_refl _⟩, fun i v H2 hi hy => ?_⟩
  · exact ⟨vs, vs[i]'(by rw [al.length]; exact hi), sq, List.getElem?_eq_getElem _⟩
  · obtain ⟨rfl, hy⟩ := hy
    obtain ⟨d, h1, h2⟩ := al.getV (hy vs sq)
    exact ⟨Same.refl _, d, h1, h2.pst p⟩
theorem it_tup {K : PySem.W.Frag} {H0 : Hp} {a : Addr} {vs : List V} {ds : List PyData} (hf : TpL K H0 a vs) (al : AtL K H0 vs ds) : ItRel K H0 (Itt K a) ds := fun H p => by
  have sq : SqT K H a vs := (p.tpL hf).sq
  refine ⟨fun i hi => ?_, ⟨vs, sq, by rw [al.length]; exact Nat.le_refl _⟩, fun i v H2 hi hy => ?_⟩
  · exact ⟨vs, vs[i]'(by rw [al.length]; exact hi), sq, List.getElem?_eq_getElem _⟩
  · obtain ⟨rfl, hy⟩ := hy
    obtain ⟨d, h1, h2⟩ := al.getV (hy vs sq)
    exact ⟨Same.refl _, d, h1, h2.pst p⟩
theorem it_str {K : PySem.W.Frag} {H0 : Hp} (z : Str) : ItRel K H0 (Its z) ((txt z).map sgn) := fun H p => by
  have hl : ((txt z).map sgn).length = z.cps.size := by simp [txt]
  refine ⟨fun i hi => by rw [hl] at hi; exact hi, by rw [hl]; exact Nat.le_refl _, fun i v H2 hi hy => ?_⟩
  obtain ⟨rfl, c, h1, rfl⟩ := hy
  refine ⟨Same.refl _, sgn c, ?_, .str _⟩
  rw [List.getElem?_map]
  have : (txt z)[i]? = some c := by simpa [txt] using h1
  rw [this]
  rfl
theorem upto_length (a : Int) (n : Nat) : (upto a n).length = n := by
  induction n generalizing a with
  | zero => rfl
  | succ n ih => simp [upto, ih]
theorem upto_get (a : Int) (n i : Nat) (h : i < n) : (upto a n)[i]? = some (.int (a + i)) := by
  induction n generalizing a i with
  | zero => omega
  | succ n ih =>
    cases i with
    | zero => simp [upto]
    | succ i =>
      simp only [upto, List.getElem?_cons_succ]
      rw [ih (a + 1) i (by omega)]
      congr 2
      omega
theorem it_rng {K : PySem.W.Frag} {H0 : Hp} (a : Int) (n : Nat) : ItRel K H0 (Itr a n) (upto a n) := fun H p => by
  rw [upto_length]
  refine ⟨fun i hi => hi, Nat.le_refl n, fun i v H2 hi hy => ?_⟩
  obtain ⟨rfl, rfl⟩ := hy
  exact ⟨Same.refl _, _, upto_get a n i hi, .int _⟩
theorem SqK.pst {K : PySem.W.Frag} {H0 H : Hp} {a : Addr} {vs : List V} {ds : List PyData} {d : PyData} (p : Pst H0 H) (h : At K H0 (.ref a) d) : (∀ l, d = .list l → ∃ vs, FzL K H0 a vs ∧ AtL K H0 vs l) ∧ (∀ l, d = .tuple l → ∃ vs, TpL K H0 a vs ∧ AtL K H0 vs l) := by
  constructor
  · rintro l rfl
    cases h with | lst f g => exact ⟨_, f, g⟩
  · rintro l rfl
    cases h with | tup f g => exact ⟨_, f, g⟩
/-- a source that lasts: a frozen list, a tuple -/
def Lst (K : PySem.W.Frag) (H : Hp) (a : Addr) (vs : List V) : Bool → Prop
  | true => TpL K H a vs
  | false => FzL K H a vs
theorem Lst.sq {K : PySem.W.Frag} {H0 H : Hp} {a : Addr} {vs : List V} (p : Pst H0 H) : ∀ {κ : Bool}, Lst K H0 a vs κ → SqK K H a vs κ
  | true, h => (p.tpL h).sq
  | false, h => (p.fzL h).sq
theorem enumD_length (k : Nat) (l : List PyData) : (enumD k l).length = l.length := by
  induction l generalizing k with
  | nil => rfl
  | cons x r ih => simp [enumD, ih]
theorem enumD_get (k : Nat) (l : List PyData) (i : Nat) (d : PyData) (h : l[i]? = some d) : (enumD k l)[i]? = some (.tuple [.int ((k + i : Nat) : Int), d]) := by
  induction l generalizing k i with
  | nil => simp at h
  | cons x r ih =>
    cases i with
    | zero => simp at h; subst h; simp [enumD]
    | succ i =>
      simp only [enumD, List.getElem?_cons_succ]
      rw [ih (k + 1) i (by simpa using h)]
      congr 4
      omega
theorem it_enum {K : PySem.W.Frag} {H0 : Hp} {a : Addr} {vs : List V} {ds : List PyData} {κ : Bool} (hf : Lst K H0 a vs κ) (al : AtL K H0 vs ds) : ItRel K H0 (ItE K a vs κ) (enumD 0 ds) := fun H p => by
  rw [enumD_length, ← al.length]
  refine ⟨fun i hi => ⟨hi, hf.sq p⟩, ⟨rfl, hf.sq p⟩, fun i v H2 hi hy => ?_⟩
  obtain ⟨T, x, o, rfl, hT, ho, rfl, hx⟩ := hy
  obtain ⟨d, h1, h2⟩ := al.getV hx
  refine ⟨same_new hT, _, enumD_get 0 ds i d h1, ?_⟩
  rw [Nat.zero_add]
  exact new_tp hT ho (.cons (.int _) (.cons (h2.pst p) .nil))
theorem zipD_length (l m : List PyData) : (zipD l m).length = min l.length m.length := by
  induction l generalizing m with
  | nil => simp [zipD]
  | cons x r ih =>
    cases m with
    | nil => simp [zipD]
    | cons y q => simp only [zipD, List.length_cons, ih]; omega
theorem zipD_get (l m : List PyData) (i : Nat) (d e : PyData) (h : l[i]? = some d) (h2 : m[i]? = some e) : (zipD l m)[i]? = some (.tuple [d, e]) := by
  induction l generalizing m i with
  | nil => simp at h
  | cons x r ih =>
    cases m with
    | nil => simp at h2
    | cons y q =>
      cases i with
      | zero => simp at h h2; subst h h2; simp [zipD]
      | succ i =>
        simp only [zipD, List.getElem?_cons_succ]
        exact ih q i (by simpa using h) (by simpa using h2)
theorem it_zip {K : PySem.W.Frag} {H0 : Hp} {a b : Addr} {vs ws : List V} {ds es : List PyData} {κ μ : Bool} (hf : Lst K H0 a vs κ) (al : AtL K H0 vs ds) (hg : Lst K H0 b ws μ) (bl : AtL K H0 ws es) : ItRel K H0 (ItZ K a b vs ws κ μ) (zipD ds es) := fun H p => by
  rw [zipD_length, ← al.length, ← bl.length]
  refine ⟨fun i hi => ⟨by omega, by omega, hf.sq p, hg.sq p⟩, ⟨by omega, by omega, by omega, hf.sq p, hg.sq p⟩, fun i v H2 hi hy => ?_⟩
  obtain ⟨T, x, y, o, rfl, hT, ho, rfl, hx, hy⟩ := hy
  obtain ⟨d, h1, h2⟩ := al.getV hx
  obtain ⟨e, h3, h4⟩ := bl.getV hy
  exact ⟨same_new hT, _, zipD_get ds es i d e h1 h3, new_tp hT ho (.cons (h2.pst p) (.cons (h4.pst p) .nil))⟩
/-- a datum that is kept, as an argument of enumerate, zip -/
theorem qi_itr {tg : Expr} (ha : PE X a (TEv F GL X.K ia)) : PI X tg a (TIv F GL X.K (.itr ia)) := by
  refine ⟨fun pins s σ H R I h => ?_⟩
  obtain ⟨ι, en, st, xs, st', Rl, S, e, q⟩ := h
  simp only [evI] at e
  split at e
  · cases e
  · rename_i ho
    rw [Bool.not_eq_true] at ho
    obtain ⟨⟨x, st1⟩, e1, e2⟩ := Res.bind_ok e
    have e1 := toD_ok e1
    cases x with
    | list l =>
      cases e2
      refine (pi_list (tg := tg) ha).run pins s σ H R I ⟨ι, en, st, _, _, Rl, S, e1, fun ι1 v H1 p1 S1 a1 x1 => ?_⟩
      rw [ho] at a1
      cases a1 with
      | lst f g => exact ⟨_, rfl, ⟨_, f.sq⟩, q ι1 _ H1 p1 S1 x1 (it_list f g)⟩
    | tuple l =>
      cases e2
      refine (pi_tup (tg := tg) ha).run pins s σ H R I ⟨ι, en, st, _, _, Rl, S, e1, fun ι1 v H1 p1 S1 a1 x1 => ?_⟩
      rw [ho] at a1
      cases a1 with
      | tup f g => exact ⟨_, rfl, ⟨_, f.sq⟩, q ι1 _ H1 p1 S1 x1 (it_tup f g)⟩
    | str z =>
      cases e2
      refine (pi_str (tg := tg) ha).run pins s σ H R I ⟨ι, en, st, _, _, Rl, S, e1, fun ι1 v H1 p1 S1 a1 x1 => ?_⟩
      rw [ho] at a1
      cases a1
      exact ⟨z, rfl, q ι1 _ H1 p1 S1 x1 (it_str z)⟩
    | none => simp [itemsD] at e2
    | bool _ => simp [itemsD] at e2
    | int _ => simp [itemsD] at e2
    | dict _ => simp [itemsD] at e2
theorem qi_rng1 {tg : Expr} {p : Pos} (hg : Gl X "range") (hm : X.mg "range" = none) (ha : PE X a (TEv F GL X.K ia)) (hs : starEach [a] X.env = (false, eval a X.env) :: starEach [] X.env) (hs2 : starEach [a] X.env = [(false, eval a X.env)]) : PI X tg (.Call (.Name "range" p) [a] [] pos) (TIv F GL X.K (.rng1 ia)) := by
  refine pi_imp (pi_range1 hg hm (pa_cons (qd ha) pa_nil hs) (hs := hs2)) fun σ H R ⟨ι, en, st, xs, st', Rl, S, e, q⟩ => ?_
  simp only [evI] at e
  obtain ⟨⟨x, st1⟩, e1, e2⟩ := Res.bind_ok e
  refine ⟨ι, en, st, x, st1, Rl, S, e1, fun ι1 v H1 p1 S1 a1 x1 => ?_⟩
  cases x <;> first | cases e2 | skip
  rename_i j
  simp only at e2
  split at e2
  · rename_i hj
    cases e2
    have hj := of_decide_eq_true hj
    exact ⟨j, by rw [a1.int], hj.1, hj.2, q ι1 _ H1 p1 S1 x1 (it_rng 0 j.toNat)⟩
  · cases e2
theorem qi_rng2 {tg : Expr} {p : Pos} (hg : Gl X "range") (hm : X.mg "range" = none) (ha : PE X a (TEv F GL X.K ia)) (hb : PE X b (TEv F GL X.K ib)) (hs : starEach [a, b] X.env = (false, eval a X.env) :: starEach [b] X.env) (hs2 : starEach [b] X.env = (false, eval b X.env) :: starEach [] X.env) (hpl : (backTo pos (starEach [b] X.env)).any (·.1) = false) :
    PI X tg (.Call (.Name "range" p) [a, b] [] pos) (TIv F GL X.K (.rng2 ia ib)) := by
  refine pi_imp (pi_range2 hg hm (pa_cons (qd ha) (pa_cons (qd hb) pa_nil hs2) hs) (hs := by rw [hs, hs2]; rfl) (hs2 := by rw [hs2]; rfl)) fun σ H R ⟨ι, en, st, xs, st', Rl, S, e, q⟩ => ?_
  simp only [evI] at e
  obtain ⟨⟨x, st1⟩, e1, e2⟩ := Res.bind_ok e
  obtain ⟨⟨y, st2⟩, e3, e4⟩ := Res.bind_ok e2
  refine ⟨ι, en, st, x, st1, Rl, S, e1, fun ι1 v H1 p1 S1 a1 x1 => ?_⟩
  refine ⟨ι1, en, st1, y, st2, Rl.ext p1 x1, S1, e3, fun ι2 u H2 p2 S2 a2 x2 => ?_⟩
  cases x <;> cases y <;> first | cases e4 | skip
  rename_i i j
  simp only at e4
  split at e4
  · rename_i hj
    cases e4
    rw [Bool.and_eq_true] at hj
    have h1 := of_decide_eq_true hj.1
    have h2 := of_decide_eq_true hj.2
    exact ⟨i, j, by rw [a1.int, a2.int], ⟨h1.1, h1.2, h2.1, h2.2⟩, q ι2 _ H2 (p1.trans p2) S2 (x1.trans x2) (it_rng i (j - i).toNat)⟩
  · cases e4
theorem keep_src {K : PySem.W.Frag} {ι : List Addr} {H : Hp} {v : V} {d : PyData} (h : AtO K ι H v (.dat d) false) : (∀ l, d = .list l → ∃ a vs, v = .ref a ∧ Lst K H a vs false ∧ AtL K H vs l) ∧ (∀ l, d = .tuple l → ∃ a vs, v = .ref a ∧ Lst K H a vs true ∧ AtL K H vs l) := by
  constructor
  · rintro l rfl
    cases (h : At K H v (.list l)) with | lst f g => exact ⟨_, _, rfl, f, g⟩
  · rintro l rfl
    cases (h : At K H v (.tuple l)) with | tup f g => exact ⟨_, _, rfl, f, g⟩
theorem qi_enm {p tpos : Pos} {elts : List Expr} {kk : Nat} (hg : Gl X "enumerate") (hm : X.mg "enumerate" = none) (ha : PE X a (TEv F GL X.K ia)) (hs : starEach [a] X.env = (false, eval a X.env) :: starEach [] X.env) (hs2 : starEach [a] X.env = [(false, eval a X.env)]) :
    PI X (.Tuple elts kk tpos) (.Call (.Name "enumerate" p) [a] [] pos) (TIv F GL X.K (.enm ia)) := by
  refine pi_imp (pi_enm hg hm (pa_cons ha pa_nil hs) hs2) fun σ H R ⟨ι, en, st, xs, st', Rl, S, e, q⟩ => ?_
  simp only [evI] at e
  split at e
  · cases e
  · rename_i ho
    rw [Bool.not_eq_true] at ho
    obtain ⟨⟨x, st1⟩, e1, e2⟩ := Res.bind_ok e
    refine ⟨ι, en, st, _, st1, Rl, S, toD_ok e1, fun ι1 v H1 p1 S1 a1 x1 => ?_⟩
    rw [ho] at a1
    obtain ⟨k1, k2⟩ := keep_src a1
    cases x <;> first | cases e2 | skip
    · obtain ⟨z, vs, rfl, f, g⟩ := k1 _ rfl
      exact ⟨z, vs, false, rfl, f.sq (Ext.refl H1).pst, q ι1 _ H1 p1 S1 x1 (it_enum f g)⟩
    · obtain ⟨z, vs, rfl, f, g⟩ := k2 _ rfl
      exact ⟨z, vs, true, rfl, f.sq (Ext.refl H1).pst, q ι1 _ H1 p1 S1 x1 (it_enum f g)⟩
theorem qi_zp {p tpos : Pos} {elts : List Expr} {kk : Nat} (hg : Gl X "zip") (hm : X.mg "zip" = none) (ha : PE X a (TEv F GL X.K ia)) (hb : PE X b (TEv F GL X.K ib)) (hs : starEach [a, b] X.env = (false, eval a X.env) :: starEach [b] X.env) (hs2 : starEach [b] X.env = (false, eval b X.env) :: starEach [] X.env) (hpl : (backTo pos (starEach [b] X.env)).any (·.1) = false) :
    PI X (.Tuple elts kk tpos) (.Call (.Name "zip" p) [a, b] [] pos) (TIv F GL X.K (.zp ia ib)) := by
  refine pi_imp (pi_zp hg hm (pa_cons ha (pa_cons hb pa_nil hs2) hs) hs hpl) fun σ H R ⟨ι, en, st, xs, st', Rl, S, e, q⟩ => ?_
  simp only [evI] at e
  split at e
  · cases e
  · rename_i ho
    rw [Bool.not_eq_true, Bool.or_eq_false_iff] at ho
    obtain ⟨⟨x, st1⟩, e1, e2⟩ := Res.bind_ok e
    obtain ⟨⟨y, st2⟩, e3, e4⟩ := Res.bind_ok e2
    refine ⟨ι, en, st, _, st1, Rl, S, toD_ok e1, fun ι1 v H1 p1 S1 a1 x1 => ?_⟩
    refine ⟨ι1, en, st1, _, st2, Rl.ext p1 x1, S1, toD_ok e3, fun ι2 u H2 p2 S2 a2 x2 => ?_⟩
    rw [ho.1] at a1
    rw [ho.2] at a2
    obtain ⟨k1, k2⟩ := keep_src (ι := ι2) (AtV.ext (r := .dat x) a1 p2 x2)
    obtain ⟨k3, k4⟩ := keep_src a2
    have fin : ∀ {z w : Addr} {vs ws : List V} {l m : List PyData} {κ μ : Bool}, v = .ref z → u = .ref w → Lst X.K H2 z vs κ → AtL X.K H2 vs l → Lst X.K H2 w ws μ → AtL X.K H2 ws m → xs = zipD l m → st2 = st' → ∃ a b xs' ys κ μ, [v, u] = [V.ref a, V.ref b] ∧ SqK X.K H2 a xs' κ ∧ SqK X.K H2 b ys μ ∧ R (ItZ X.K a b xs' ys κ μ) H2 := by
      rintro z w vs ws l m κ μ rfl rfl f g f' g' rfl rfl
      exact ⟨z, w, vs, ws, κ, μ, rfl, f.sq (Ext.refl H2).pst, f'.sq (Ext.refl H2).pst, q ι2 _ H2 (p1.trans p2) S2 (x1.trans x2) (it_zip f g f' g')⟩
    cases x <;> cases y <;> first | (simp only [reduceCtorEq] at e4; done) | skip
    all_goals first
      | (obtain ⟨z, vs, h1, f, g⟩ := k1 _ rfl; obtain ⟨w, ws, h2, f', g'⟩ := k3 _ rfl; cases e4; exact fin h1 h2 f g f' g' rfl rfl)
      | (obtain ⟨z, vs, h1, f, g⟩ := k1 _ rfl; obtain ⟨w, ws, h2, f', g'⟩ := k4 _ rfl; cases e4; exact fin h1 h2 f g f' g' rfl rfl)
      | (obtain ⟨z, vs, h1, f, g⟩ := k2 _ rfl; obtain ⟨w, ws, h2, f', g'⟩ := k3 _ rfl; cases e4; exact fin h1 h2 f g f' g' rfl rfl)
      | (obtain ⟨z, vs, h1, f, g⟩ := k2 _ rfl; obtain ⟨w, ws, h2, f', g'⟩ := k4 _ rfl; cases e4; exact fin h1 h2 f g f' g' rfl rfl)
      | cases e4
end
end Rv

set_option Elab.async false
set_option linter.all false
set_option maxRecDepth 100000
set_option maxHeartbeats 1000000
/-! Rv, part B: comprehensions; new lists that are owned. -/
namespace Rv
open PySem PySem.Spec PyProof.Rows L2
theorem wipe_get (σ : L2.St) : ∀ (vs : List Nat) (i : Nat), (wipe σ vs)[i]? = if i ∈ vs ∧ i < σ.length then some none else σ[i]?
  | [], i => by simp [wipe]
  | v :: vs, i => by
    unfold wipe
    by_cases e : v = i
    · subst e
      by_cases h : v < σ.length
      · rw [List.getElem?_set_self (by rw [wipe_length]; exact h), if_pos ⟨List.mem_cons_self, h⟩]
      · rw [if_neg (fun z => h z.2), List.getElem?_eq_none (by rw [List.length_set, wipe_length]; omega), List.getElem?_eq_none (by omega)]
    · rw [List.getElem?_set_ne e, wipe_get σ vs i]
      have : (i ∈ v :: vs ∧ i < σ.length) ↔ (i ∈ vs ∧ i < σ.length) := by simp [Ne.symm e]
      simp only [this]
theorem wipe_eq {σ σ' : L2.St} {vs : List Nat} (hl : σ'.length = σ.length) (h : ∀ j, j ∉ vs → σ'[j]? = σ[j]?) : wipe σ' vs = wipe σ vs := by
  apply List.ext_getElem?
  intro i
  rw [wipe_get, wipe_get, hl]
  by_cases e : i ∈ vs ∧ i < σ.length
  · rw [if_pos e, if_pos e]
  · rw [if_neg e, if_neg e]
    by_cases hm : i ∈ vs
    · have : ¬ i < σ.length := fun z => e ⟨hm, z⟩
      rw [List.getElem?_eq_none (by omega), List.getElem?_eq_none (by omega)]
    · exact h i hm
theorem wipe_wipe (σ : L2.St) (vs : List Nat) : wipe (wipe σ vs) vs = wipe σ vs := wipe_eq (wipe_length σ vs) fun j hj => by
  rw [wipe_get, if_neg (fun z => hj z.1)]
theorem wipeE_length (en : En) : ∀ vs : List Nat, (wipeE en vs).length = en.length
  | [] => rfl
  | v :: vs => by unfold wipeE; rw [List.length_set, wipeE_length en vs]
theorem wipeE_get (en : En) : ∀ (vs : List Nat) (i : Nat) (s : Slot), getS (wipeE en vs) i = some s → getS en i = some s ∧ i ∉ vs
  | [], i, s, h => ⟨h, by simp⟩
  | v :: vs, i, s, h => by
    unfold wipeE at h
    by_cases hv : v < (wipeE en vs).length
    · rw [getS_set hv] at h
      by_cases e : i = v
      · rw [if_pos e] at h; cases h
      · rw [if_neg e] at h
        obtain ⟨h1, h2⟩ := wipeE_get en vs i s h
        exact ⟨h1, by simp [e, h2]⟩
    · rw [List.set_eq_of_length_le (by omega)] at h
      obtain ⟨h1, h2⟩ := wipeE_get en vs i s h
      refine ⟨h1, ?_⟩
      simp only [List.mem_cons, not_or]
      refine ⟨fun e => ?_, h2⟩
      subst e
      unfold getS at h1
      rw [List.getElem?_eq_none (by rw [wipeE_length] at hv; omega)] at h1
      cases h1
theorem RelEn.wipe {K : PySem.W.Frag} {ι : List Addr} {en : En} {σ : L2.St} {H : Hp} (R : RelEn K ι en σ H) (vs : List Nat) : RelEn K ι (wipeE en vs) (L2.wipe σ vs) H := ⟨by rw [wipeE_length, wipe_length]; exact R.1, fun i s h => by
  obtain ⟨h1, h2⟩ := wipeE_get en vs i s h
  obtain ⟨v, h3, h4⟩ := R.2 i s h1
  exact ⟨v, by rw [wipe_get, if_neg (fun z => h2 z.1)]; exact h3, h4⟩⟩
section
variable {X : Cx} {F : Str → List Vl → Sto → Res (Vl × Sto)} {GL : Str → Option PyData} {pos : Pos} {a b c : Expr} {ia ib ic : E}
/-- the tests of a comprehension -/
def TTs (F : Str → List Vl → Sto → Res (Vl × Sto)) (GL : Str → Option PyData) (K : PySem.W.Frag) (e : E) : TT := fun σ H Q => ∃ ι en st b st', RelEn K ι en σ H ∧ RelS K ι st H ∧ evTs F GL e en st = .ok (b, st') ∧
  ∀ ι' H', ι <+: ι' → RelS K ι' st' H' → Ext H H' → Q b H'
theorem pts_imp {e : List Expr} {t t' : TT} (h : PTs X e t) (i : ∀ σ H Q, t' σ H Q → t σ H Q) : PTs X e t' := ⟨fun pins s σ H Q I hq => h.run pins s σ H Q I (i σ H Q hq)⟩
theorem qts_nil : PTs X [] (TTs F GL X.K .nil) := pts_imp pts_nil fun σ H Q ⟨ι, en, st, b, st', R, S, e, q⟩ => by
  simp only [evTs] at e
  cases e
  exact q ι H (List.prefix_refl _) S (Ext.refl H)
theorem qts_one (ha : PT X a (TTv F GL X.K ia)) : PTs X [a] (TTs F GL X.K (.cons ia .nil)) := pts_imp (pts_one ha) fun σ H Q ⟨ι, en, st, b, st', R, S, e, q⟩ => by
  simp only [evTs] at e
  exact ⟨ι, en, st, b, st', R, S, e, q⟩
/-- a new list, not frozen -/
def TFr (F : Str → List Vl → Sto → Res (Vl × Sto)) (GL : Str → Option PyData) (K : PySem.W.Frag) (e : E) : TE := fun σ H Q => ∃ ι en st l st', RelEn K ι en σ H ∧ RelS K ι st H ∧ evE F GL e en st = .ok (.dat (.list l), st') ∧
  ∀ ι' p xs H', ι <+: ι' → RelS K ι' st' H' → H p = none → H' p = some (.lst xs) → AtL K H' xs l → Ext H H' → Q (.ref p) H'
/-- one turn of a comprehension -/
def lcStep (F : Str → List Vl → Sto → Res (Vl × Sto)) (GL : Str → Option PyData) (elt : E) (tg : G) (ifs : E) (en0 : En) : PyData → Sto → Res (Option PyData × Sto) := fun x st' => match bindG tg x en0 with
  | some en' => (evTs F GL ifs en' st').bind fun (b, st2) => if b then (if isOwn en' elt then .bad else (toD (evE F GL elt en' st2)).bind fun (y, st3) => .ok (some y, st3)) else .ok (none, st2)
  | none => .bad
theorem lc_open {elt it ifs : E} {own : List (Str × Nat)} {tg : G} {en : En} {st st' : Sto} {r : Vl} (e : evE F GL (.lc elt own tg it ifs) en st = .ok (r, st')) : ∃ xs st1 ys, evI F GL it en st = .ok (xs, st1) ∧
    lcRun (lcStep F GL elt tg ifs (wipeE en (own.map (·.2)))) xs st1 = .ok (ys, st') ∧ ys.length ≤ line ∧ r = .dat (.list ys) := by
  simp only [evE] at e
  obtain ⟨⟨xs, st1⟩, e1, e2⟩ := Res.bind_ok e
  obtain ⟨⟨ys, st2⟩, e3, e4⟩ := Res.bind_ok e2
  simp only at e4
  split at e4
  · rename_i hl
    cases e4
    exact ⟨xs, st1, ys, e1, e3, hl, rfl⟩
  · cases e4
theorem qf_lc {elt tg iter : Expr} {ifs : List Expr} {scope : Scope} {own : List (Str × Nat)} {ielt iit iifs : E} {ig : G} {wi : TI} {g : TG} {tt : TT} {te : TE}
    (hwi : ∀ σ H R, TIv F GL X.K iit σ H R → wi σ H R) (hg : ∀ v σ H Q, TGv X.K ig v σ H Q → g v σ H Q) (htt : ∀ σ H Q, TTs F GL X.K iifs σ H Q → tt σ H Q) (hte : ∀ σ H Q, TEv F GL X.K ielt σ H Q → te σ H Q) (hown : ∀ i ∈ slotsG ig, i ∈ own.map (·.2)) :
    ∀ σ H Q, TFr F GL X.K (.lc ielt own ig iit iifs) σ H Q → tLc wi g tt te (own.map (·.2)) σ H Q := by
  intro σ H Q ⟨ι, en, st, l, st', R, S, e, q⟩
  obtain ⟨xs, st1, ys, e1, e2, hz, er⟩ := lc_open e
  cases er
  refine hwi σ H _ ⟨ι, en, st, xs, st1, R, S, e1, fun ι1 J H1 p1 S1 x1 ir => fun D hD => ?_⟩
  have R1 := (R.ext p1 x1).wipe (own.map (·.2))
  generalize hvs : own.map (·.2) = vs at *
  generalize hf : lcStep F GL ielt ig iifs (wipeE en vs) = f at *
  refine ⟨fun i m H2 => m = xs.length - i ∧ i ≤ xs.length ∧ ∃ ι2 st2 acc done rest, ι1 <+: ι2 ∧ RelS X.K ι2 st2 H2 ∧ Ext H1 H2 ∧ H2 D = some (.lst acc) ∧ AtL X.K H2 acc done ∧ lcRun f (xs.drop i) st2 = .ok (rest, st') ∧ done ++ rest = l,
    ⟨xs.length, by simp, Nat.zero_le _, ι1, st1, [], [], l, List.prefix_refl _, S1.new hD, Ext.new hD, upd_same, .nil, by simpa using e2, rfl⟩, ?_⟩
  rintro i m H2 ⟨rfl, hi, ι2, st2, acc, done, rest, p2, S2, x2, hacc, al, er, hy⟩
  have irH := ir H2 x2.pst
  by_cases hlt : i < xs.length
  · right
    have hx : xs.drop i = xs[i] :: xs.drop (i + 1) := List.drop_eq_getElem_cons hlt
    rw [hx] at er
    obtain ⟨⟨y, st3⟩, er1, er2⟩ := Res.bind_ok er
    obtain ⟨⟨zs, st4⟩, er3, er4⟩ := Res.bind_ok er2
    cases er4
    refine ⟨irH.1 i hlt, fun H' => ∃ ι3 acc' done', ι1 <+: ι3 ∧ RelS X.K ι3 st3 H' ∧ Ext H1 H' ∧ H' D = some (.lst acc') ∧ AtL X.K H' acc' done' ∧ done' ++ zs = l, fun H' ⟨ι3, acc', done', a1, a2, a3, a4, a5, a6⟩ => ?_, fun x H' hyl => ?_⟩
    · exact ⟨xs.length - (i + 1), by omega, rfl, by omega, ι3, st3, acc', done', zs, a1, a2, a3, a4, a5, er3, a6⟩
    · obtain ⟨sm, d, hd, had⟩ := irH.2.2 i x H' hlt hyl
      have hdx : d = xs[i] := by
        rw [List.getElem?_eq_getElem hlt] at hd
        exact (Option.some.inj hd).symm
      subst hdx
      rw [← hf] at er1
      unfold lcStep at er1
      cases hb : bindG ig xs[i] (wipeE en vs) with
      | none => simp only [hb] at er1; cases er1
      | some en' =>
        simp only [hb] at er1
        obtain ⟨⟨bb, st5⟩, eb1, eb2⟩ := Res.bind_ok er1
        have xt : Ext H1 H' := x2.trans (Same.ext' sm)
        refine hg x (wipe σ vs) H' _ ⟨ι2, wipeE en vs, xs[i], en', R1.ext p2 xt, had, hb, fun σ2 Rσ l2 k2 => ?_⟩
        refine ⟨by rw [wipe_eq (σ := wipe σ vs) l2 (fun j hj => k2 j (fun z => hj (hown j z))), wipe_wipe], ?_⟩
        refine htt σ2 H' _ ⟨ι2, en', st2, bb, st5, Rσ, S2.same sm, eb1, fun ι5 H5 p5 S5 x5 => ?_⟩
        have accH' : H' D = some (.lst acc) := sm D _ hacc
        have acc5 : H5 D = some (.lst acc) := x5.1 D _ accH' (fun _ z => nomatch z)
        cases bb with
        | false =>
          dsimp only
          rw [if_neg Bool.false_ne_true]
          cases eb2
          exact ⟨ι5, acc, done, p2.trans p5, S5, xt.trans x5, acc5, al.ext ((Same.ext' sm).trans x5), hy⟩
        | true =>
          dsimp only
          rw [if_pos rfl]
          simp only [if_true] at eb2
          split at eb2
          · cases eb2
          · rename_i ho
            rw [Bool.not_eq_true] at ho
            obtain ⟨⟨yy, st6⟩, ey1, ey2⟩ := Res.bind_ok eb2
            cases ey2
            refine hte σ2 H5 _ ⟨ι5, en', st5, _, _, Rσ.ext p5 x5, S5, toD_ok ey1, fun ι6 v6 H6 p6 S6 a6 x6 => ?_⟩
            rw [ho] at a6
            have acc6 : H6 D = some (.lst acc) := x6.1 D _ acc5 (fun _ z => nomatch z)
            have al6 : AtL X.K H6 acc done := al.ext (((Same.ext' sm).trans x5).trans x6)
            have hlt2 : acc.length < sizeLine := by
              rw [al.length, ← line_size]
              have h1 := congrArg List.length hy
              simp at h1
              omega
            refine ⟨acc, acc6, hlt2, ι6, acc ++ [v6], done ++ [yy], (p2.trans p5).trans p6, S6.lst acc6, ?_, upd_same, (al6.append (.cons a6 .nil)).pst (Pst.lst acc6), by rw [List.append_assoc]; exact hy⟩
            refine ⟨fun bq oq hq1 hq2 => ?_, fun bq hq => ((xt.trans x5).trans x6).2 bq (upd_none hq)⟩
            have h3 := ((xt.trans x5).trans x6).1 bq oq hq1 hq2
            rw [upd_ne (fun z => by subst z; rw [hD] at hq1; cases hq1)]
            exact h3
  · left
    have he : i = xs.length := by omega
    subst he
    refine ⟨irH.2.1, ?_⟩
    rw [List.drop_length] at er
    cases er
    rw [List.append_nil] at hy
    subst hy
    have hHD : H D = none := x1.2 D hD
    exact q ι2 D acc H2 (p1.trans p2) S2 hHD hacc al (x1.trans x2)
/-- a frozen list from a new one -/
theorem fr_te {e : Expr} {ir : E} {t : TE} (h : PE X e t) (ho : ∀ en, isOwn en ir = false) (hl : ∀ en st r st', evE F GL ir en st = .ok (r, st') → ∃ l, r = .dat (.list l)) (i : ∀ σ H Q, TFr F GL X.K ir σ H Q → t σ H Q) : PE X e (TEv F GL X.K ir) := by
  refine pe_imp (pe_frz (pe_imp h i)) fun σ H Q ⟨ι, en, st, r, st', R, S, e, q⟩ => ?_
  obtain ⟨l, rfl⟩ := hl _ _ _ _ e
  refine ⟨ι, en, st, l, st', R, S, e, fun ι1 p xs H1 p1 S1 hp hp1 al x1 => ⟨p, xs, rfl, hp1, fun o => ?_⟩⟩
  refine q ι1 _ _ p1 (S1.lst hp1) ?_ ⟨fun b ob hb hn => ?_, fun b hb => x1.2 b (upd_none hb)⟩
  · rw [ho]
    exact .lst (.inl ⟨o, upd_same⟩) (al.pst (Pst.lst hp1))
  · rw [upd_ne (fun z => by subst z; rw [hp] at hb; cases hb)]
    exact x1.1 b ob hb hn
theorem qf_lst {es : List Expr} {ie : E} (h : PA X es (TLv F GL X.K ie)) : PE X (.List es pos) (TFr F GL X.K (.lst ie)) := by
  refine pe_imp (pe_lst h) fun σ H Q ⟨ι, en, st, l, st', R, S, e, q⟩ => ?_
  simp only [evE] at e
  obtain ⟨⟨xs, st1⟩, e1, e2⟩ := Res.bind_ok e
  refine ⟨ι, en, st, xs, st1, R, S, e1, fun ι1 vs H1 p1 S1 a1 x1 => ?_⟩
  cases hd : dats xs with
  | none => simp only [hd] at e2; cases e2
  | some ds =>
    simp only [hd] at e2
    split at e2
    · rename_i hl
      cases e2
      have al := a1.dats hd
      exact ⟨by rw [al.length, ← line_size]; exact hl, fun p hp => q ι1 p _ _ p1 (S1.new hp) (x1.2 p hp) upd_same (al.ext (Ext.new hp)) (x1.trans (Ext.new hp))⟩
    · cases e2
theorem qf_rep {es : List Expr} {ie : E} {p2 : Pos} (h : PA X es (TLv F GL X.K ie)) (hb : PE X b (TEv F GL X.K ib)) : PE X (.BinOp (.List es p2) .Mult b pos) (TFr F GL X.K (.bin .Mult (.lst ie) ib)) := by
  refine pe_imp (pe_op op_rep (qf_lst h) (qd hb)) fun σ H Q ⟨ι, en, st, l, st', R, S, e, q⟩ => ?_
  rw [evE] at e
  obtain ⟨⟨x, st1⟩, e1, e2⟩ := Res.bind_ok e
  obtain ⟨⟨y, st2⟩, e3, e4⟩ := Res.bind_ok e2
  have hx : ∃ m, x = .list m := by
    have e1 := toD_ok e1
    simp only [evE] at e1
    obtain ⟨⟨xs, st3⟩, g1, g2⟩ := Res.bind_ok e1
    cases hd : dats xs with
    | none => simp only [hd] at g2; cases g2
    | some ds =>
      simp only [hd] at g2
      split at g2
      · cases g2; exact ⟨_, rfl⟩
      · cases g2
  obtain ⟨m, rfl⟩ := hx
  refine ⟨ι, en, st, m, st1, R, S, toD_ok e1, fun ι1 p xs H1 p1 S1 hp hp1 al x1 => ?_⟩
  refine ⟨ι1, en, st1, y, st2, R.ext p1 x1, S1, e3, fun ι2 u H2 p2 S2 a2 x2 => ?_⟩
  cases hz : binD .Mult (.list m) y with
  | none => simp only [hz] at e4; cases e4
  | some z =>
    simp only [hz] at e4
    cases e4
    cases y <;> simp only [binD, reduceCtorEq] at hz
    rename_i k
    split at hz
    · rename_i hk
      cases hz
      have hp2 : H2 p = some (.lst xs) := x2.1 p _ hp1 (fun _ z => nomatch z)
      have al2 := al.ext x2
      refine ⟨p, k, xs, rfl, a2.int, hp2, hk.1, by omega, ?_, fun w hw => q ι2 w _ _ (p1.trans p2) (S2.new hw) (x1.2 w (x2.2 w hw)) upd_same ((al2.rep k.toNat).ext (Ext.new hw)) ((x1.trans x2).trans (Ext.new hw))⟩
      rw [al.length, sizeLine_eq]
      have : m.length * k.toNat ≤ 1000 * 1000 := Nat.mul_le_mul hk.2.2 (by omega)
      omega
    · cases hz
theorem qf_list {es : List Expr} {ie : E} {p : Pos} (hg : Gl X "list") (hm : X.mg "list" = none) (hv : bootBuiltins "list" = some (.type "list")) (ha : PA X (a :: es) (TRv F GL X.K ie)) (he : starEach (a :: es) X.env = (false, eval a X.env) :: starEach es X.env) (hpl : (backTo pos (starEach es X.env)).any (·.1) = false) :
    PE X (.Call (.Name "list" p) (a :: es) [] pos) (TFr F GL X.K (.bif "list" ie)) := by
  refine pe_imp (pe_callTy call_list_of hg hm hv ha (by decide) (by decide) he hpl) fun σ H Q ⟨ι, en, st, l, st', R, S, e, q⟩ => ?_
  simp only [evE] at e
  obtain ⟨⟨xs, st1⟩, e1, e2⟩ := Res.bind_ok e
  refine ⟨ι, en, st, xs, st1, R, S, e1, fun ι1 vs H1 p1 S1 a1 x1 => ?_⟩
  have hb : bifD "list" xs = listD xs := by
    unfold bifD
    rw [if_neg (by decide), if_neg (by decide), if_neg (by decide), if_neg (by decide), if_neg (by decide), if_neg (by decide), if_neg (by decide), if_neg (by decide), if_neg (by decide), if_pos rfl]
  rw [hb] at e2
  cases hz : listD xs with
  | none => simp only [hz] at e2; cases e2
  | some z =>
    simp only [hz] at e2
    cases e2
    unfold listD at hz
    split at hz
    · cases hz
      obtain ⟨v, rfl, h1⟩ := a1.one
      obtain ⟨w, ys, rfl, sa, ra⟩ := h1.lst
      exact ⟨w, ys, rfl, .inl sa, fun p hp => q ι1 p _ _ p1 (S1.new hp) (x1.2 p hp) upd_same (ra.ext (Ext.new hp)) (x1.trans (Ext.new hp))⟩
    · cases hz
      obtain ⟨v, rfl, h1⟩ := a1.one
      obtain ⟨w, ys, rfl, sa, ra⟩ := h1.tup
      exact ⟨w, ys, rfl, .inr sa.sq, fun p hp => q ι1 p _ _ p1 (S1.new hp) (x1.2 p hp) upd_same (ra.ext (Ext.new hp)) (x1.trans (Ext.new hp))⟩
    · cases hz
end
end Rv

set_option Elab.async false
set_option linter.all false
set_option maxRecDepth 100000
set_option maxHeartbeats 1000000
/-! Rv, part C: statements. -/
namespace Rv
open PySem PySem.Spec PyProof.Rows L2
/-- the heap at a def's entry; the heaps at which walks began -/
structure Bs where
  hp : Hp
  bs : List Hp
/-- between two statements of a def: H₀, ι₀ at its entry -/
structure RelB (K : PySem.W.Frag) (H₀ : Bs) (ι₀ ι : List Addr) (en : En) (st : Sto) (σ : L2.St) (H : Hp) : Prop where
  pre : ι₀ <+: ι
  ren : RelEn K ι en σ H
  rst : RelS K ι st H
  ext : Ext H₀.hp H
  bas : ∀ B ∈ H₀.bs, Pst B H
  own : ∀ i l, getS en i = some (.own l) → ∃ a, σ[i]? = some (some (.ref a)) ∧ H₀.hp a = none ∧ ∀ j l', getS en j = some (.own l') → σ[j]? = some (some (.ref a)) → j = i
section
variable {K : PySem.W.Frag} {H₀ : Bs} {H H' : Hp} {ι₀ ι ι' : List Addr} {en : En} {st st' : Sto} {σ : L2.St}
theorem RelB.step (B : RelB K H₀ ι₀ ι en st σ H) (p : ι <+: ι') (S : RelS K ι' st' H') (x : Ext H H') : RelB K H₀ ι₀ ι' en st' σ H' := ⟨B.pre.trans p, B.ren.ext p x, S, B.ext.trans x, fun B' hB => (B.bas B' hB).trans x.pst, B.own⟩
theorem RelB.put {i : Nat} {r : Vl} {v : V} (B : RelB K H₀ ι₀ ι en st σ H) (hi : i < en.length) (a : AtV K ι H v r) : RelB K H₀ ι₀ ι (en.set i (some (.val r))) st (σ.set i (some v)) H := by
  refine ⟨B.pre, B.ren.set hi (s := .val r) a, B.rst, B.ext, B.bas, fun j l h => ?_⟩
  rw [getS_set hi] at h
  by_cases e : j = i
  · rw [if_pos e] at h; cases h
  · rw [if_neg e] at h
    obtain ⟨b, h1, h2, h3⟩ := B.own j l h
    refine ⟨b, by rw [List.getElem?_set_ne (Ne.symm e)]; exact h1, h2, fun k l' g1 g2 => ?_⟩
    rw [getS_set hi] at g1
    by_cases e2 : k = i
    · rw [if_pos e2] at g1; cases g1
    · rw [if_neg e2] at g1
      rw [List.getElem?_set_ne (Ne.symm e2)] at g2
      exact h3 k l' g1 g2
/-- the address of an owned list is tracked -/
theorem RelB.ownAt {i : Nat} {l : List PyData} (B : RelB K H₀ ι₀ ι en st σ H) (h : getS en i = some (.own l)) : ∃ a xs, σ[i]? = some (some (.ref a)) ∧ H a = some (.lst xs) ∧ AtL K H xs l ∧ H₀.hp a = none ∧ ∀ j l', getS en j = some (.own l') → σ[j]? = some (some (.ref a)) → j = i := by
  obtain ⟨v, h1, a, xs, rfl, h2, h3⟩ := B.ren.2 i _ h
  obtain ⟨b, g1, g2, g3⟩ := B.own i l h
  rw [h1] at g1
  cases g1
  exact ⟨a, xs, h1, h2, h3, g2, g3⟩
theorem RelB.putOwn {i : Nat} {p : Addr} {xs : List V} {l : List PyData} (B : RelB K H₀ ι₀ ι en st σ H) (hi : i < en.length) (hp : H p = some (.lst xs)) (al : AtL K H xs l) (h0 : H₀.hp p = none) (hf : ∀ j l', getS en j = some (.own l') → σ[j]? ≠ some (some (.ref p))) :
    RelB K H₀ ι₀ ι (en.set i (some (.own l))) st (σ.set i (some (.ref p))) H := by
  have hiσ : i < σ.length := by rw [← B.ren.1]; exact hi
  refine ⟨B.pre, B.ren.set hi (s := .own l) ⟨p, xs, rfl, hp, al⟩, B.rst, B.ext, B.bas, fun j l1 h => ?_⟩
  rw [getS_set hi] at h
  by_cases e : j = i
  · subst e
    refine ⟨p, List.getElem?_set_self hiσ, h0, fun k l' g1 g2 => ?_⟩
    rw [getS_set hi] at g1
    by_cases e2 : k = j
    · exact e2
    · rw [if_neg e2] at g1
      rw [List.getElem?_set_ne (Ne.symm e2)] at g2
      exact absurd g2 (hf k l' g1)
  · rw [if_neg e] at h
    obtain ⟨b, h1, h2, h3⟩ := B.own j l1 h
    refine ⟨b, by rw [List.getElem?_set_ne (Ne.symm e)]; exact h1, h2, fun k l' g1 g2 => ?_⟩
    rw [getS_set hi] at g1
    by_cases e2 : k = i
    · subst e2
      rw [List.getElem?_set_self hiσ] at g2
      cases g2
      exact absurd h1 (hf j l1 h)
    · rw [if_neg e2] at g1
      rw [List.getElem?_set_ne (Ne.symm e2)] at g2
      exact h3 k l' g1 g2
/-- an owned list is written -/
theorem RelB.write {i : Nat} {a : Addr} {xs ys : List V} {l m : List PyData} (B : RelB K H₀ ι₀ ι en st σ H) (h : getS en i = some (.own l)) (hσ : σ[i]? = some (some (.ref a))) (ha : H a = some (.lst xs)) (al : AtL K H ys m) :
    RelB K H₀ ι₀ ι (en.set i (some (.own m))) st σ (upd H a (.lst ys)) := by
  obtain ⟨a', xs', g1, g2, g3, g4, g5⟩ := B.ownAt h
  rw [hσ] at g1
  cases g1
  have hi : i < en.length := by
    unfold getS at h
    cases hh : en[i]? with
    | none => rw [hh] at h; cases h
    | some z => exact (List.getElem?_eq_some_iff.mp hh).1
  refine ⟨B.pre, ⟨by rw [List.length_set]; exact B.ren.1, fun j s hj => ?_⟩, B.rst.lst ha, ⟨fun b o hb hn => ?_, fun b hb => B.ext.2 b (upd_none hb)⟩, fun B' hB => (B.bas B' hB).trans (Pst.lst ha), fun j l1 hj => ?_⟩
  · rw [getS_set hi] at hj
    by_cases e : j = i
    · subst e
      rw [if_pos rfl] at hj
      cases hj
      exact ⟨.ref a, hσ, a, ys, rfl, upd_same, al.pst (Pst.lst ha)⟩
    · rw [if_neg e] at hj
      obtain ⟨v, h1, h2⟩ := B.ren.2 j s hj
      refine ⟨v, h1, ?_⟩
      cases s with
      | val r =>
        cases r with
        | dat d => exact At.pst (Pst.lst ha) d v h2
        | dic k => exact h2
      | own l2 =>
        obtain ⟨b, zs, rfl, h3, h4⟩ := h2
        have : b ≠ a := fun z => e (g5 j l2 hj (by rw [← z]; exact h1))
        exact ⟨b, zs, rfl, by rw [upd_ne this]; exact h3, h4.pst (Pst.lst ha)⟩
  · rw [upd_ne (fun z => by subst z; rw [g4] at hb; cases hb)]
    exact B.ext.1 b o hb hn
  · rw [getS_set hi] at hj
    have key : ∀ k l', getS (en.set i (some (.own m))) k = some (.own l') → ∃ l'', getS en k = some (.own l'') := fun k l' hk => by
      rw [getS_set hi] at hk
      by_cases e : k = i
      · subst e; exact ⟨l, h⟩
      · rw [if_neg e] at hk; exact ⟨l', hk⟩
    by_cases e : j = i
    · subst e
      exact ⟨a, hσ, g4, fun k l' q1 q2 => let ⟨l'', q3⟩ := key k l' q1; g5 k l'' q3 q2⟩
    · rw [if_neg e] at hj
      obtain ⟨b, h1, h2, h3⟩ := B.own j l1 hj
      exact ⟨b, h1, h2, fun k l' q1 q2 => let ⟨l'', q3⟩ := key k l' q1; h3 k l'' q3 q2⟩
theorem RelB.bind {g : G} {en' : En} {σ' : L2.St} {d : PyData} (B : RelB K H₀ ι₀ ι en st σ H) (hb : bindG g d en = some en') (R : RelEn K ι en' σ' H) (hk : ∀ j, j ∉ slotsG g → σ'[j]? = σ[j]?) : RelB K H₀ ι₀ ι en' st σ' H := by
  obtain ⟨h1, h2, h3⟩ := bindG_spec g d en en' hb
  have key : ∀ j l, getS en' j = some (.own l) → getS en j = some (.own l) ∧ j ∉ slotsG g := fun j l hj => by
    by_cases e : j ∈ slotsG g
    · obtain ⟨v, hv⟩ := h3 j e
      rw [hj] at hv
      cases hv
    · rw [h2 j e] at hj
      exact ⟨hj, e⟩
  refine ⟨B.pre, R, B.rst, B.ext, B.bas, fun j l hj => ?_⟩
  obtain ⟨q1, q2⟩ := key j l hj
  obtain ⟨b, g1, g2, g3⟩ := B.own j l q1
  refine ⟨b, by rw [hk j q2]; exact g1, g2, fun k l' r1 r2 => ?_⟩
  obtain ⟨q3, q4⟩ := key k l' r1
  rw [hk k q4] at r2
  exact g3 k l' q3 r2
end
section
variable (F : Str → List Vl → Sto → Res (Vl × Sto)) (GL : Str → Option PyData) (wf : Nat) (K : PySem.W.Frag) (H₀ : Bs) (ι₀ : List Addr)
def Post (D : Ends) : Out → Prop
  | .next en st => ∀ ι σ H, RelB K H₀ ι₀ ι en st σ H → D.nx σ H
  | .brk en st => ∀ ι σ H, RelB K H₀ ι₀ ι en st σ H → D.bk σ H
  | .ret r st => ∀ ι v H, ι₀ <+: ι → RelS K ι st H → AtV K ι H v r → Ext H₀.hp H → D.rt v H
def TSv (s : S) : TS := fun D σ H => ∃ ι en st o, RelB K H₀ ι₀ ι en st σ H ∧ evS F GL wf s en st = .ok o ∧ Post K H₀ ι₀ D o
end
section
variable {X : Cx} {F : Str → List Vl → Sto → Res (Vl × Sto)} {GL : Str → Option PyData} {wf : Nat} {H₀ : Bs} {ι₀ : List Addr} {pos : Pos} {a b c : Expr} {ia ib ic : E} {stt : Stmt}
theorem qs_nil : PSs X [] (TSv F GL wf X.K H₀ ι₀ .nil) := pss_imp pss_nil fun D σ H ⟨ι, en, st, o, B, e, q⟩ => by
  simp only [evS] at e
  cases e
  exact q ι σ H B
theorem qs_seq {rest : List Stmt} {sa sr : S} (h1 : PS X stt (TSv F GL wf X.K H₀ ι₀ sa)) (h2 : PSs X rest (TSv F GL wf X.K H₀ ι₀ sr)) : PSs X (stt :: rest) (TSv F GL wf X.K H₀ ι₀ (.seq sa sr)) := by
  refine pss_imp (pss_cons h1 h2) fun D σ H ⟨ι, en, st, o, B, e, q⟩ => ?_
  simp only [evS] at e
  obtain ⟨o1, e1, e2⟩ := Res.bind_ok e
  refine ⟨ι, en, st, o1, B, e1, ?_⟩
  cases o1 with
  | next en1 st1 => exact fun ι1 σ1 H1 B1 => ⟨ι1, en1, st1, o, B1, e2, q⟩
  | ret v st1 => cases e2; exact q
  | brk en1 st1 => cases e2; exact q
/-- a new list is frozen behind a statement -/
theorem ps_frzS {t : TS} (h : PS X stt t) : PS X stt (fun D σ H => t { D with nx := fun σ' H' => ∃ a xs, H' a = some (.lst xs) ∧ ∀ o, D.nx σ' (upd H' a (.frz o (.lst xs))) } σ H) := by
  refine ⟨fun pins s σ H D I hq => thn (h.run pins s σ H _ I hq) fun f s1 hs => ?_⟩
  cases f with
  | next =>
    obtain ⟨σ', H', I', a, xs, e, q⟩ := hs
    obtain ⟨o, I2⟩ := inv_frz I' e
    exact ⟨σ', _, I2, q o⟩
  | ret u => exact hs
  | brk => exact hs
  | cont => exact hs
theorem evA_ok {o : Bool} {e : E} {en : En} {st st' : Sto} {s : Slot} (h : evA F GL o e en st = .ok (s, st')) : isOwn en e = false ∧ ∃ v, evE F GL e en st = .ok (v, st') ∧ asSlot o v = some s := by
  unfold evA at h
  split at h
  · cases h
  · rename_i ho
    rw [Bool.not_eq_true] at ho
    obtain ⟨⟨v, st1⟩, e1, e2⟩ := Res.bind_ok h
    obtain ⟨s1, e3, e4⟩ := Res.bind_ok e2
    cases e4
    exact ⟨ho, v, e1, Res.ofO_ok e3⟩
theorem putS_ok {en en' : En} {i : Nat} {s : Slot} (h : putS en i s = some en') : i < en.length ∧ en' = en.set i (some s) := by
  unfold putS at h
  split at h
  · rename_i hi
    cases h
    exact ⟨hi, rfl⟩
  · cases h
/-- name = value -/
theorem qs_asgV {i : Nat} {t : TE} (h : PS X stt (tAsg t (gName i))) (hi : ∀ σ H Q, TEv F GL X.K ia σ H Q → t σ H Q) : PS X stt (TSv F GL wf X.K H₀ ι₀ (.asg (.nm i) ia)) := by
  refine ps_imp h fun D σ H ⟨ι, en, st, o, B, e, q⟩ => hi σ H _ ?_
  simp only [evS] at e
  obtain ⟨⟨s, st1⟩, e1, e2⟩ := Res.bind_ok e
  obtain ⟨en1, e3, e4⟩ := Res.bind_ok e2
  cases e4
  obtain ⟨ho, v, e5, e6⟩ := evA_ok e1
  obtain ⟨hl, rfl⟩ := putS_ok (Res.ofO_ok e3)
  cases e6
  refine ⟨ι, en, st, v, st1, B.ren, B.rst, e5, fun ι1 w H1 p1 S1 a1 x1 => ?_⟩
  rw [ho] at a1
  exact q ι1 _ H1 ((B.step p1 S1 x1).put hl a1)
/-- name = a new list that is frozen -/
theorem qs_asgF {i : Nat} {t : TE} (h : PS X stt (tAsg t (gName i))) (hl : ∀ en st r st', evE F GL ia en st = .ok (r, st') → ∃ l, r = .dat (.list l)) (hi : ∀ σ H Q, TFr F GL X.K ia σ H Q → t σ H Q) : PS X stt (TSv F GL wf X.K H₀ ι₀ (.asg (.nm i) ia)) := by
  refine ps_imp (ps_frzS h) fun D σ H ⟨ι, en, st, o, B, e, q⟩ => hi σ H _ ?_
  simp only [evS] at e
  obtain ⟨⟨s, st1⟩, e1, e2⟩ := Res.bind_ok e
  obtain ⟨en1, e3, e4⟩ := Res.bind_ok e2
  cases e4
  obtain ⟨ho, v, e5, e6⟩ := evA_ok e1
  obtain ⟨hl1, rfl⟩ := putS_ok (Res.ofO_ok e3)
  cases e6
  obtain ⟨l, rfl⟩ := hl _ _ _ _ e5
  refine ⟨ι, en, st, l, st1, B.ren, B.rst, e5, fun ι1 p xs H1 p1 S1 hp hp1 al x1 => ⟨p, xs, hp1, fun o => ?_⟩⟩
  refine q ι1 _ _ (RelB.put (RelB.step B p1 (S1.lst hp1) ?_) hl1 ?_)
  · refine ⟨fun b ob hb hn => ?_, fun b hb => x1.2 b (upd_none hb)⟩
    rw [upd_ne (fun z => by subst z; rw [hp] at hb; cases hb)]
    exact x1.1 b ob hb hn
  · exact At.lst (.inl ⟨o, upd_same⟩) (al.pst (Pst.lst hp1))
/-- an owned list stands elsewhere than what is new -/
theorem off_own {ι : List Addr} {en : En} {st : Sto} {σ : L2.St} {H : Hp} {p : Addr} (B : RelB X.K H₀ ι₀ ι en st σ H) (hp : H p = none) : H₀.hp p = none ∧ ∀ j l', getS en j = some (.own l') → σ[j]? ≠ some (some (.ref p)) := by
  refine ⟨B.ext.2 p hp, fun j l' hj hσ => ?_⟩
  obtain ⟨a, xs, h1, h2, _⟩ := B.ownAt hj
  rw [hσ] at h1
  cases h1
  rw [hp] at h2
  cases h2
theorem qs_asgO {i : Nat} {t : TE} (h : PS X stt (tAsg t (gName i))) (hi : ∀ σ H Q, TFr F GL X.K ia σ H Q → t σ H Q) : PS X stt (TSv F GL wf X.K H₀ ι₀ (.asgO i ia)) := by
  refine ps_imp h fun D σ H ⟨ι, en, st, o, B, e, q⟩ => hi σ H _ ?_
  simp only [evS] at e
  obtain ⟨⟨s, st1⟩, e1, e2⟩ := Res.bind_ok e
  obtain ⟨en1, e3, e4⟩ := Res.bind_ok e2
  cases e4
  obtain ⟨ho, v, e5, e6⟩ := evA_ok e1
  obtain ⟨hl1, rfl⟩ := putS_ok (Res.ofO_ok e3)
  have : ∃ l, v = .dat (.list l) ∧ s = .own l := by
    cases v with
    | dic k => simp [asSlot] at e6
    | dat d => cases d <;> simp [asSlot] at e6; exact ⟨_, rfl, e6.symm⟩
  obtain ⟨l, rfl, rfl⟩ := this
  refine ⟨ι, en, st, l, st1, B.ren, B.rst, e5, fun ι1 p xs H1 p1 S1 hp hp1 al x1 => ?_⟩
  obtain ⟨g1, g2⟩ := off_own B hp
  exact q ι1 _ _ ((B.step p1 S1 x1).putOwn hl1 hp1 al g1 g2)
theorem qs_asgG {g : G} {t : TE} {tg : TG} (h : PS X stt (tAsg t tg)) (hi : ∀ σ H Q, TEv F GL X.K ia σ H Q → t σ H Q) (hg : ∀ v σ H Q, TGv X.K g v σ H Q → tg v σ H Q) (hn : ∀ i, g ≠ .nm i) : PS X stt (TSv F GL wf X.K H₀ ι₀ (.asg g ia)) := by
  refine ps_imp h fun D σ H ⟨ι, en, st, o, B, e, q⟩ => hi σ H _ ?_
  have e' : (if isOwn en ia then Res.bad else (toD (evE F GL ia en st)).bind fun (x, st1) => (Res.ofO (bindG g x en)).bind fun en1 => .ok (.next en1 st1)) = .ok o := by
    cases g with
    | nm i => exact absurd rfl (hn i)
    | tp g => simpa only [evS] using e
    | nil => simpa only [evS] using e
    | cons a r => simpa only [evS] using e
  split at e'
  · cases e'
  · rename_i ho
    rw [Bool.not_eq_true] at ho
    obtain ⟨⟨x, st1⟩, e1, e2⟩ := Res.bind_ok e'
    obtain ⟨en1, e3, e4⟩ := Res.bind_ok e2
    cases e4
    refine ⟨ι, en, st, _, st1, B.ren, B.rst, toD_ok e1, fun ι1 w H1 p1 S1 a1 x1 => ?_⟩
    rw [ho] at a1
    have B1 := B.step p1 S1 x1
    exact hg _ _ _ _ ⟨ι1, en, x, en1, B1.ren, a1, Res.ofO_ok e3, fun σ' R' l' k' => q ι1 σ' H1 (B1.bind (Res.ofO_ok e3) R' k')⟩
end
end Rv

set_option Elab.async false
set_option linter.all false
set_option maxRecDepth 100000
set_option maxHeartbeats 1000000
/-! Rv, part D: further statements. -/
namespace Rv
open PySem PySem.Spec PyProof.Rows L2
section
variable {X : Cx} {F : Str → List Vl → Sto → Res (Vl × Sto)} {GL : Str → Option PyData} {wf : Nat} {H₀ : Bs} {ι₀ : List Addr} {pos : Pos} {a b c : Expr} {ia ib ic : E} {stt : Stmt}
/-! ### two, three names at once -/
/-- what a name gets: owned, or kept -/
def TAs (F : Str → List Vl → Sto → Res (Vl × Sto)) (GL : Str → Option PyData) (K : PySem.W.Frag) (o : Bool) (e : E) : TE := if o then TFr F GL K e else TEv F GL K e
/-- the slot's value behind evA -/
def Got (K : PySem.W.Frag) (ι : List Addr) (H0 H : Hp) (v : V) : Slot → Prop
  | .val r => AtV K ι H v r
  | .own l => ∃ p xs, v = .ref p ∧ H0 p = none ∧ H p = some (.lst xs) ∧ AtL K H xs l
theorem Got.ext {K : PySem.W.Frag} {ι ι' : List Addr} {H0 H H' : Hp} {v : V} : ∀ {s : Slot}, Got K ι H0 H v s → ι <+: ι' → Ext H H' → Got K ι' H0 H' v s
  | .val r, h, p, e => AtV.ext h p e
  | .own l, ⟨a, xs, h1, h0, h2, h3⟩, p, e => ⟨a, xs, h1, h0, e.1 a _ h2 (fun _ z => nomatch z), h3.ext e⟩
theorem Got.back {K : PySem.W.Frag} {ι : List Addr} {H0 H1 H : Hp} {v : V} (x : Ext H0 H1) : ∀ {s : Slot}, Got K ι H1 H v s → Got K ι H0 H v s
  | .val r, h => h
  | .own l, ⟨a, xs, h1, h0, h2, h3⟩ => ⟨a, xs, h1, x.2 a h0, h2, h3⟩
theorem as_run {K : PySem.W.Frag} {o : Bool} {e : E} {σ : L2.St} {H : Hp} {Q : VK} {ι : List Addr} {en : En} {st st' : Sto} {s : Slot} (R : RelEn K ι en σ H) (S : RelS K ι st H) (h : evA F GL o e en st = .ok (s, st'))
    (q : ∀ ι' v H', ι <+: ι' → RelS K ι' st' H' → Got K ι' H H' v s → Ext H H' → Q v H') : TAs F GL K o e σ H Q := by
  obtain ⟨ho, v, e1, e2⟩ := evA_ok h
  cases o with
  | false =>
    cases e2
    exact ⟨ι, en, st, v, st', R, S, e1, fun ι1 w H1 p1 S1 a1 x1 => q ι1 w H1 p1 S1 (by rw [ho] at a1; exact a1) x1⟩
  | true =>
    have : ∃ l, v = .dat (.list l) ∧ s = .own l := by
      cases v with
      | dic k => simp [asSlot] at e2
      | dat d => cases d <;> simp [asSlot] at e2; exact ⟨_, rfl, e2.symm⟩
    obtain ⟨l, rfl, rfl⟩ := this
    exact ⟨ι, en, st, l, st', R, S, e1, fun ι1 p xs H1 p1 S1 hp hp1 al x1 => q ι1 _ H1 p1 S1 ⟨p, xs, rfl, hp, hp1, al⟩ x1⟩
theorem RelB.got {K : PySem.W.Frag} {ι : List Addr} {en : En} {st : Sto} {σ : L2.St} {H Hb : Hp} {i : Nat} {v : V} {s : Slot} (B : RelB K H₀ ι₀ ι en st σ H) (hi : i < en.length) (g : Got K ι Hb H v s) (h0 : ∀ p, Hb p = none → H₀.hp p = none ∧ ∀ j l', getS en j = some (.own l') → σ[j]? ≠ some (some (.ref p))) :
    RelB K H₀ ι₀ ι (en.set i (some s)) st (σ.set i (some v)) H := by
  cases s with
  | val r => exact B.put hi g
  | own l =>
    obtain ⟨p, xs, rfl, hb, hp, al⟩ := g
    exact B.putOwn hi hp al (h0 p hb).1 (h0 p hb).2
/-- a, b = x, y, however it is stored -/
def tParG (i j : Nat) (ta : TA) : TS := fun D σ H => ta σ H fun vs H1 => ∃ v w, vs = [v, w] ∧ ∀ H2, Same H1 H2 → D.nx ((σ.set i (some v)).set j (some w)) H2
theorem qs_par {i j : Nat} {oi oj : Bool} (h : PS X stt (tParG i j (tCons (TAs F GL X.K oi ia) (tCons (TAs F GL X.K oj ib) tNil)))) (hij : i ≠ j) : PS X stt (TSv F GL wf X.K H₀ ι₀ (.par i j oi oj ia ib)) := by
  refine ps_imp h fun D σ H ⟨ι, en, st, o, B, e, q⟩ => ?_
  simp only [evS] at e
  obtain ⟨⟨s, st1⟩, e1, e2⟩ := Res.bind_ok e
  obtain ⟨⟨s', st2⟩, e3, e4⟩ := Res.bind_ok e2
  obtain ⟨en1, e5, e6⟩ := Res.bind_ok e4
  obtain ⟨en2, e7, e8⟩ := Res.bind_ok e6
  cases e8
  obtain ⟨h1, rfl⟩ := putS_ok (Res.ofO_ok e5)
  obtain ⟨h2, rfl⟩ := putS_ok (Res.ofO_ok e7)
  rw [List.length_set] at h2
  refine as_run B.ren B.rst e1 fun ι1 v H1 p1 S1 g1 x1 => ?_
  have B1 := B.step p1 S1 x1
  refine as_run B1.ren S1 e3 fun ι2 w H2 p2 S2 g2 x2 => ⟨v, w, rfl, fun H3 sm => ?_⟩
  have B2 := B1.step p2 S2 x2
  have B3 := B2.step (List.prefix_refl _) (S2.same sm) (Same.ext' sm)
  have g1' : Got X.K ι2 H H3 v s := g1.ext p2 (x2.trans (Same.ext' sm))
  have g2' : Got X.K ι2 H1 H3 w s' := g2.ext (List.prefix_refl _) (Same.ext' sm)
  refine q ι2 _ H3 (RelB.got (Hb := H1) (RelB.got (Hb := H) B3 h1 g1' fun p hp => off_own B hp) (by rw [List.length_set]; exact h2) g2' fun p hp => ?_)
  obtain ⟨k1, k2⟩ := off_own B1 hp
  refine ⟨k1, fun k l' hk hσ => ?_⟩
  rw [getS_set h1] at hk
  by_cases e : k = i
  · subst e
    rw [if_pos rfl] at hk
    rw [List.getElem?_set_self (by rw [← B.ren.1]; exact h1)] at hσ
    cases hk
    obtain ⟨p', xs, rfl, _, hp1, _⟩ := g1
    cases hσ
    rw [hp] at hp1
    cases hp1
  · rw [if_neg e] at hk
    rw [List.getElem?_set_ne (Ne.symm e)] at hσ
    exact k2 k l' hk hσ
def tParG3 (i j k : Nat) (ta : TA) : TS := fun D σ H => ta σ H fun vs H1 => ∃ v w u, vs = [v, w, u] ∧ ∀ H2, Same H1 H2 → D.nx (((σ.set i (some v)).set j (some w)).set k (some u)) H2
theorem got_off {K : PySem.W.Frag} {ι : List Addr} {en : En} {σ : L2.St} {H1 H : Hp} {i : Nat} {v : V} {s : Slot} (h1 : i < en.length) (hl : en.length = σ.length) (g : Got K ι H H1 v s) {p : Addr} (hp : H1 p = none) (k2 : ∀ j l', getS en j = some (.own l') → σ[j]? ≠ some (some (.ref p))) :
    ∀ j l', getS (en.set i (some s)) j = some (.own l') → (σ.set i (some v))[j]? ≠ some (some (.ref p)) := fun k l' hk hσ => by
  rw [getS_set h1] at hk
  by_cases e : k = i
  · subst e
    rw [if_pos rfl] at hk
    rw [List.getElem?_set_self (by rw [← hl]; exact h1)] at hσ
    cases hk
    obtain ⟨p', xs, rfl, _, hp1, _⟩ := g
    cases hσ
    rw [hp] at hp1
    cases hp1
  · rw [if_neg e] at hk
    rw [List.getElem?_set_ne (Ne.symm e)] at hσ
    exact k2 k l' hk hσ
theorem qs_par3 {i j k : Nat} {oi oj ok : Bool} (h : PS X stt (tParG3 i j k (tCons (TAs F GL X.K oi ia) (tCons (TAs F GL X.K oj ib) (tCons (TAs F GL X.K ok ic) tNil))))) : PS X stt (TSv F GL wf X.K H₀ ι₀ (.par3 i j k oi oj ok ia ib ic)) := by
  refine ps_imp h fun D σ H ⟨ι, en, st, o, B, e, q⟩ => ?_
  simp only [evS] at e
  obtain ⟨⟨s, st1⟩, e1, e2⟩ := Res.bind_ok e
  obtain ⟨⟨s', st2⟩, e3, e4⟩ := Res.bind_ok e2
  obtain ⟨⟨s'', st3⟩, e5, e6⟩ := Res.bind_ok e4
  obtain ⟨en1, e7, e8⟩ := Res.bind_ok e6
  obtain ⟨en2, e9, e10⟩ := Res.bind_ok e8
  obtain ⟨en3, e11, e12⟩ := Res.bind_ok e10
  cases e12
  obtain ⟨h1, rfl⟩ := putS_ok (Res.ofO_ok e7)
  obtain ⟨h2, rfl⟩ := putS_ok (Res.ofO_ok e9)
  obtain ⟨h3, rfl⟩ := putS_ok (Res.ofO_ok e11)
  rw [List.length_set] at h2
  rw [List.length_set, List.length_set] at h3
  refine as_run B.ren B.rst e1 fun ι1 v H1 p1 S1 g1 x1 => ?_
  have B1 := B.step p1 S1 x1
  refine as_run B1.ren S1 e3 fun ι2 w H2 p2 S2 g2 x2 => ?_
  have B2 := B1.step p2 S2 x2
  refine as_run B2.ren S2 e5 fun ι3 u H3 p3 S3 g3 x3 => ⟨v, w, u, rfl, fun H4 sm => ?_⟩
  have B4 := (B2.step p3 S3 x3).step (List.prefix_refl _) (S3.same sm) (Same.ext' sm)
  have x4 : Ext H3 H4 := Same.ext' sm
  have hl := B.ren.1
  refine q ι3 _ H4 (RelB.got (Hb := H2) (RelB.got (Hb := H1) (RelB.got (Hb := H) B4 h1 (g1.ext (p2.trans p3) ((x2.trans x3).trans x4)) fun p hp => off_own B hp) (by rw [List.length_set]; exact h2) (g2.ext p3 (x3.trans x4)) fun p hp => ?_) (by rw [List.length_set, List.length_set]; exact h3) (g3.ext (List.prefix_refl _) x4) fun p hp => ?_)
  · obtain ⟨k1, k2⟩ := off_own B1 hp
    exact ⟨k1, got_off h1 hl g1 hp k2⟩
  · obtain ⟨k1, k2⟩ := off_own B2 hp
    exact ⟨k1, got_off (by rw [List.length_set]; exact h2) (by rw [List.length_set, List.length_set]; exact hl) g2 hp (got_off h1 hl (g1.ext p2 x2) hp k2)⟩
/-! ### name op= e -/
theorem qs_aug {i : Nat} {x : Str} {op : Operator} {pos' : Pos} (hN : X.N.Nodup) (hi : X.N[i]? = some x) (hx : Loc X.env.scope x) (he : PE X a (TEv F GL X.K ia)) (hf : X.fn x = true ∨ X.env.scope.names.lookup x = some .local) : PS X (.AugAssign (.Name x pos') op a pos) (TSv F GL wf X.K H₀ ι₀ (.aug i op ia)) := by
  have key : ∀ {f : Int → Int → Int}, PIp X op (ipI f) → (∀ en st o, evS F GL wf (.aug i op ia) en st = .ok o → ∃ u y st1, getS en i = some (.val (.dat (.int u))) ∧ toD (evE F GL ia en st) = .ok (.int y, st1) ∧ i < en.length ∧ o = .next (en.set i (some (.val (.dat (.int (f u y)))))) st1) → PS X (.AugAssign (.Name x pos') op a pos) (TSv F GL wf X.K H₀ ι₀ (.aug i op ia)) := fun {f} hp ho => by
    refine ps_imp (ps_aug hN hi hx (qd he) hp hf) fun D σ H ⟨ι, en, st, o, B, e, q⟩ => ?_
    obtain ⟨u, y, st1, h1, h2, h3, rfl⟩ := ho en st o e
    obtain ⟨v, g1, g2⟩ := B.ren.2 i _ h1
    cases (g2 : At X.K H v (.int u))
    refine ⟨.int u, g1, ι, en, st, .int y, st1, B.ren, B.rst, h2, fun ι1 w H1 p1 S1 a1 x1 => ⟨u, y, rfl, a1.int, q ι1 _ H1 ((B.step p1 S1 x1).put h3 (.int _))⟩⟩
  have opn : ∀ en st o, evS F GL wf (.aug i op ia) en st = .ok o → ∃ u y st1, getS en i = some (.val (.dat (.int u))) ∧ toD (evE F GL ia en st) = .ok (.int y, st1) ∧ i < en.length ∧ ((op = .Add ∧ o = .next (en.set i (some (.val (.dat (.int (u + y)))))) st1) ∨ (op = .Sub ∧ o = .next (en.set i (some (.val (.dat (.int (u - y)))))) st1)) := fun en st o e => by
    simp only [evS] at e
    split at e
    · rename_i u hg
      obtain ⟨⟨y, st1⟩, e1, e2⟩ := Res.bind_ok e
      simp only at e2
      split at e2
      · obtain ⟨en1, e3, e4⟩ := Res.bind_ok e2
        obtain ⟨hl, rfl⟩ := putS_ok (Res.ofO_ok e3)
        cases e4
        exact ⟨u, _, st1, hg, e1, hl, .inl ⟨rfl, rfl⟩⟩
      · obtain ⟨en1, e3, e4⟩ := Res.bind_ok e2
        obtain ⟨hl, rfl⟩ := putS_ok (Res.ofO_ok e3)
        cases e4
        exact ⟨u, _, st1, hg, e1, hl, .inr ⟨rfl, rfl⟩⟩
      · cases e2
    · cases e
  by_cases h1 : op = .Add
  · subst h1
    exact key ip_add fun en st o e => by
      obtain ⟨u, y, st1, a1, a2, a3, a4 | a4⟩ := opn en st o e
      · exact ⟨u, y, st1, a1, a2, a3, a4.2⟩
      · exact absurd a4.1 (by decide)
  · by_cases h2 : op = .Sub
    · subst h2
      exact key ip_sub fun en st o e => by
        obtain ⟨u, y, st1, a1, a2, a3, a4 | a4⟩ := opn en st o e
        · exact absurd a4.1 (by decide)
        · exact ⟨u, y, st1, a1, a2, a3, a4.2⟩
    · refine ps_imp ps_never fun D σ H ⟨ι, en, st, o, B, e, q⟩ => ?_
      obtain ⟨u, y, st1, a1, a2, a3, a4 | a4⟩ := opn en st o e
      · exact h1 a4.1
      · exact h2 a4.1
/-! ### changes of an owned list -/
theorem qs_app {i : Nat} {x : Str} {p apos cpos : Pos} (hN : X.N[i]? = some x) (hv : Vis X.env.scope x) (hd : (x == ("__debug__" : Str)) = false) (hcd : (x == ("__classdict__" : Str)) = false) (he : PE X a (TEv F GL X.K ia)) (hline : (apos.endLine == cpos.line) = true)
    (hs : starEach [a] X.env = (false, eval a X.env) :: starEach [] X.env) (hfew : ((backTo cpos (starEach [a] X.env)).all (fun x => !x.1) && (backToKw cpos (keywordEach [] X.env)).all (fun x => x.1.isSome) && decide ([a].length + ([] : List Keyword).length + (if ([] : List Keyword).isEmpty then 0 else 1) < 30)) = true) :
    PS X (.Expr (.Call (.Attribute (.Name x p) "append" apos) [a] [] cpos) pos) (TSv F GL wf X.K H₀ ι₀ (.app i ia)) := by
  refine ps_imp (ps_expr (pe_bm PySem.F.plainAttrs_list PySem.F.slot_list_append PySem.F.type_list_append mt_append (pe_var hN hv hd hcd) (pa_cons he pa_nil hs) rfl hfew hline hs (by rfl)) rfl) fun D σ H ⟨ι, en, st, o, B, e, q⟩ => ?_
  simp only [evS] at e
  split at e
  · rename_i l hg
    split at e
    · cases e
    · rename_i ho
      rw [Bool.not_eq_true] at ho
      obtain ⟨⟨y, st1⟩, e1, e2⟩ := Res.bind_ok e
      simp only at e2
      split at e2
      · rename_i hz
        cases e2
        obtain ⟨w, xs, h1, h2, h3, h4, h5⟩ := B.ownAt hg
        refine ⟨.ref w, h1, .inl ⟨rfl, xs, SqL.of h2⟩, ι, en, st, _, st1, B.ren, B.rst, toD_ok e1, fun ι1 v H1 p1 S1 a1 x1 => ?_⟩
        rw [ho] at a1
        have B1 := B.step p1 S1 x1
        have hw : H1 w = some (.lst xs) := x1.1 w _ h2 (fun _ z => nomatch z)
        exact ⟨w, xs, v, rfl, rfl, hw, by rw [h3.length, ← line_size]; exact hz, q ι1 σ _ (B1.write hg h1 hw ((h3.ext x1).append (.cons a1 .nil)))⟩
      · cases e2
  · cases e
theorem qs_ext {i : Nat} {x : Str} {p apos cpos : Pos} (hN : X.N[i]? = some x) (hv : Vis X.env.scope x) (hd : (x == ("__debug__" : Str)) = false) (hcd : (x == ("__classdict__" : Str)) = false) (he : PE X a (TFr F GL X.K ia)) (hline : (apos.endLine == cpos.line) = true)
    (hs : starEach [a] X.env = (false, eval a X.env) :: starEach [] X.env) (hfew : ((backTo cpos (starEach [a] X.env)).all (fun x => !x.1) && (backToKw cpos (keywordEach [] X.env)).all (fun x => x.1.isSome) && decide ([a].length + ([] : List Keyword).length + (if ([] : List Keyword).isEmpty then 0 else 1) < 30)) = true) :
    PS X (.Expr (.Call (.Attribute (.Name x p) "extend" apos) [a] [] cpos) pos) (TSv F GL wf X.K H₀ ι₀ (.ext i ia)) := by
  refine ps_imp (ps_expr (pe_bm PySem.F.plainAttrs_list PySem.F.slot_list_extend PySem.F.type_list_extend mt_extend (pe_var hN hv hd hcd) (pa_cons he pa_nil hs) rfl hfew hline hs (by rfl)) rfl) fun D σ H ⟨ι, en, st, o, B, e, q⟩ => ?_
  simp only [evS] at e
  split at e
  · rename_i l hg
    split at e
    · cases e
    · obtain ⟨⟨y, st1⟩, e1, e2⟩ := Res.bind_ok e
      simp only at e2
      split at e2
      · rename_i m
        split at e2
        · rename_i hz
          cases e2
          obtain ⟨w, xs, h1, h2, h3, h4, h5⟩ := B.ownAt hg
          refine ⟨.ref w, h1, .inl ⟨rfl, xs, SqL.of h2⟩, ι, en, st, _, st1, B.ren, B.rst, toD_ok e1, fun ι1 p zs H1 p1 S1 hp hp1 al x1 => ?_⟩
          have B1 := B.step p1 S1 x1
          have hw : H1 w = some (.lst xs) := x1.1 w _ h2 (fun _ z => nomatch z)
          exact ⟨w, p, xs, zs, rfl, rfl, hw, hp1, by rw [h3.length, al.length, ← line_size]; exact hz, q ι1 σ _ (B1.write hg h1 hw ((h3.ext x1).append al))⟩
        · cases e2
      · cases e2
  · cases e
theorem ixN_nat {n : Nat} {k : Int} (h0 : 0 ≤ k) (h1 : k < n) : ixN n k = some k.toNat := by
  unfold ixN
  rw [if_pos h0, if_pos h1]
theorem qs_sit {i : Nat} {x : Str} {p p2 : Pos} (hN : X.N[i]? = some x) (hv : Vis X.env.scope x) (hd : (x == ("__debug__" : Str)) = false) (hcd : (x == ("__classdict__" : Str)) = false) (hk : PE X b (TEv F GL X.K ib)) (he : PE X a (TEv F GL X.K ia)) (hs : swapsWithSole [.Subscript (.Name x p) b p2] a pos.line X.env = pure false)
    (hw : swappedStores [.Subscript (.Name x p) b p2] a X.env = pure none) (hasg : ∀ v, assign (.Subscript (.Name x p) b p2) X.env v = (do let ov ← holding [v] (eval (.Name x p) X.env); let iv ← holding [v, ov] (eval b X.env); standAt p2; holding [v, ov, iv] (setItem ov iv v); release [v, ov, iv] [])) :
    PS X (.Assign [.Subscript (.Name x p) b p2] a pos) (TSv F GL wf X.K H₀ ι₀ (.sit i ib ia)) := by
  refine ps_imp (ps_asg he (pg_sub (pe_var hN hv hd hcd) (qd hk) set_list hasg) hs hw rfl) fun D σ H ⟨ι, en, st, o, B, e, q⟩ => ?_
  simp only [evS] at e
  split at e
  · rename_i l hg
    split at e
    · cases e
    · rename_i ho
      rw [Bool.not_eq_true] at ho
      obtain ⟨⟨y, st1⟩, e1, e2⟩ := Res.bind_ok e
      obtain ⟨⟨z, st2⟩, e3, e4⟩ := Res.bind_ok e2
      simp only at e4
      split at e4
      · rename_i n
        split at e4
        · rename_i hz
          cases e4
          obtain ⟨w, xs, h1, h2, h3, h4, h5⟩ := B.ownAt hg
          refine ⟨ι, en, st, _, st1, B.ren, B.rst, toD_ok e1, fun ι1 v H1 p1 S1 a1 x1 => ?_⟩
          rw [ho] at a1
          have B1 := B.step p1 S1 x1
          refine ⟨.ref w, h1, ι1, en, st1, _, st2, B1.ren, S1, e3, fun ι2 u H2 p2 S2 a2 x2 => ?_⟩
          have B2 := B1.step p2 S2 x2
          have x12 := x1.trans x2
          have hw2 : H2 w = some (.lst xs) := x12.1 w _ h2 (fun _ z => nomatch z)
          refine ⟨w, xs, n, n.toNat, rfl, a2.int, hw2, ixN_nat hz.1 (by rw [h3.length]; exact hz.2), q ι2 σ _ (B2.write hg h1 hw2 ((h3.ext x12).set (At.ext a1 x2) n.toNat))⟩
        · cases e4
      · cases e4
  · cases e
def rGetL (K : PySem.W.Frag) : V → V → Hp → VK → Prop := fun o i H Q => ∃ p xs k v, o = .ref p ∧ i = .int k ∧ SqL K H p xs ∧ 0 ≤ k ∧ xs[k.toNat]? = some v ∧ Q v H
theorem get_list : PGet X (rGetL X.K) := by
  intro pins s σ H o i ov iv Q I ro ri h
  obtain ⟨p, xs, k, v, rfl, rfl, hp, h0, hv, q⟩ := h
  cases ro
  obtain ⟨t, rfl⟩ := ri
  obtain ⟨its, r, pl, hz⟩ := I.list hp
  obtain ⟨w, ew, rw'⟩ := r.get hv
  have hlt : k.toNat < xs.length := (List.getElem?_eq_some_iff.mp hv).1
  have hn := line63
  exact wpAny_getItem_list pl.isList h0 (by omega) (by simpa using ew) ⟨v, H, I, rw', q⟩
theorem qs_aug2 {i : Nat} {x : Str} {op : Operator} {p p2 : Pos} (hN : X.N[i]? = some x) (hv : Vis X.env.scope x) (hd : (x == ("__debug__" : Str)) = false) (hcd : (x == ("__classdict__" : Str)) = false) (hk : PE X b (TEv F GL X.K ib)) (he : PE X a (TEv F GL X.K ia))
    (hst : ∀ ov iv new, augStore b ov iv new = (do holding [new, ov, iv] (setItem ov iv new); release [new, ov, iv] []; pure .next)) (hop : op = .Add) : PS X (.AugAssign (.Subscript (.Name x p) b p2) op a pos) (TSv F GL wf X.K H₀ ι₀ (.aug2 i ib op ia)) := by
  subst hop
  refine ps_imp (ps_augS (pe_var hN hv hd hcd) (qd hk) get_list (qd he) ip_add set_list hst) fun D σ H ⟨ι, en, st, o, B, e, q⟩ => ?_
  simp only [evS] at e
  split at e
  · rename_i l hg
    obtain ⟨⟨z, st1⟩, e1, e2⟩ := Res.bind_ok e
    obtain ⟨⟨y, st2⟩, e3, e4⟩ := Res.bind_ok e2
    simp only at e4
    split at e4
    · rename_i n y _
      split at e4
      · rename_i hz
        split at e4
        · rename_i u hu
          cases e4
          obtain ⟨w, xs, h1, h2, h3, h4, h5⟩ := B.ownAt hg
          refine ⟨.ref w, h1, ι, en, st, _, st1, B.ren, B.rst, e1, fun ι1 v H1 p1 S1 a1 x1 => ?_⟩
          have hw1 : H1 w = some (.lst xs) := x1.1 w _ h2 (fun _ z => nomatch z)
          obtain ⟨g, g1, g2⟩ := (h3.ext x1).get hu
          cases g2
          refine ⟨w, xs, n, .int u, rfl, a1.int, SqL.of hw1, hz.1, g1, ?_⟩
          have B1 := B.step p1 S1 x1
          refine ⟨ι1, en, st1, _, st2, B1.ren, S1, e3, fun ι2 v2 H2 p2 S2 a2 x2 => ?_⟩
          have B2 := B1.step p2 S2 x2
          have hw2 : H2 w = some (.lst xs) := x2.1 w _ hw1 (fun _ z => nomatch z)
          refine ⟨u, y, rfl, a2.int, w, xs, n, n.toNat, rfl, a1.int, hw2, ixN_nat hz.1 (by rw [h3.length]; exact hz.2), q ι2 σ _ (B2.write hg h1 hw2 ((h3.ext (x1.trans x2)).set (.int _) n.toNat))⟩
        · cases e4
      · cases e4
    · cases e4
  · cases e
end
end Rv

set_option Elab.async false
set_option linter.all false
set_option maxRecDepth 100000
set_option maxHeartbeats 1000000
/-! Rv, part E: tests, loops, ends, d[k] = x. -/
namespace Rv
open PySem PySem.Spec PyProof.Rows L2
section
variable {X : Cx} {F : Str → List Vl → Sto → Res (Vl × Sto)} {GL : Str → Option PyData} {wf : Nat} {H₀ : Bs} {ι₀ : List Addr} {pos : Pos} {a b c : Expr} {ia ib ic : E} {stt : Stmt}
theorem qs_pass : PS X (.Pass pos) (TSv F GL wf X.K H₀ ι₀ .pass) := ps_imp ps_pass fun D σ H ⟨ι, en, st, o, B, e, q⟩ => by
  simp only [evS] at e
  cases e
  exact q ι σ H B
theorem qs_doc {x j p} : PS X (.Expr (.Constant (.str x) j p) pos) (TSv F GL wf X.K H₀ ι₀ .pass) := ps_imp ps_doc fun D σ H ⟨ι, en, st, o, B, e, q⟩ => by
  simp only [evS] at e
  cases e
  exact q ι σ H B
theorem qs_brk : PS X (.Break pos) (TSv F GL wf X.K H₀ ι₀ .brk) := ps_imp ps_break fun D σ H ⟨ι, en, st, o, B, e, q⟩ => by
  simp only [evS] at e
  cases e
  exact q ι σ H B
theorem qs_retN : PS X (.Return none pos) (TSv F GL wf X.K H₀ ι₀ .retN) := ps_imp ps_retN fun D σ H ⟨ι, en, st, o, B, e, q⟩ => by
  simp only [evS] at e
  cases e
  exact q ι .non H B.pre B.rst At.non B.ext
theorem qs_raise {k : Str} {ie : E} : PS X stt (TSv F GL wf X.K H₀ ι₀ (.raise k ie)) := ps_imp ps_never fun D σ H ⟨ι, en, st, o, B, e, q⟩ => by
  simp only [evS] at e
  obtain ⟨⟨d, st1⟩, e1, e2⟩ := Res.bind_ok e
  cases e2
theorem qs_exp (he : PE X a (TEv F GL X.K ia)) (hs : swapsWith a none pos.line X.env = pure false) : PS X (.Expr a pos) (TSv F GL wf X.K H₀ ι₀ (.exp ia)) := by
  refine ps_imp (ps_expr he hs) fun D σ H ⟨ι, en, st, o, B, e, q⟩ => ?_
  simp only [evS] at e
  obtain ⟨⟨r, st1⟩, e1, e2⟩ := Res.bind_ok e
  cases e2
  exact ⟨ι, en, st, r, st1, B.ren, B.rst, e1, fun ι1 v H1 p1 S1 a1 x1 => q ι1 σ H1 (B.step p1 S1 x1)⟩
theorem qs_if {sa sb : S} {as bs : List Stmt} (hc : PT X c (TTv F GL X.K ic)) (ha : PSs X as (TSv F GL wf X.K H₀ ι₀ sa)) (hb : PSs X bs (TSv F GL wf X.K H₀ ι₀ sb)) : PS X (.If c as bs pos) (TSv F GL wf X.K H₀ ι₀ (.iff ic sa sb)) := by
  refine ps_imp (ps_if hc ha hb) fun D σ H ⟨ι, en, st, o, B, e, q⟩ => ?_
  simp only [evS] at e
  obtain ⟨⟨t, st1⟩, e1, e2⟩ := Res.bind_ok e
  refine ⟨ι, en, st, t, st1, B.ren, B.rst, e1, fun ι1 H1 p1 S1 x1 => ?_⟩
  have B1 := B.step p1 S1 x1
  cases t with
  | true => exact ⟨ι1, en, st1, o, B1, e2, q⟩
  | false => exact ⟨ι1, en, st1, o, B1, e2, q⟩
theorem qs_while {sb : S} {bs : List Stmt} (hp : PassesOwn (model X.prog X.w) X.A X.env X.xe) (hc : PT X c (TTv F GL X.K ic)) (hb : PSs X bs (TSv F GL wf X.K H₀ ι₀ sb)) : PS X (.While c bs [] pos) (TSv F GL wf X.K H₀ ι₀ (.whl ic sb)) := by
  refine ps_imp (ps_while hp hc hb) fun D σ H ⟨ι, en, st, o, B, e, q⟩ => ?_
  simp only [evS] at e
  refine ⟨fun m σ H => ∃ ι en st, RelB X.K H₀ ι₀ ι en st σ H ∧ whRun (fun en' st' => toB (evE F GL ic en' st')) (fun en' st' => evS F GL wf sb en' st') m en st = .ok o, ⟨wf, ι, en, st, B, e⟩, ?_⟩
  rintro m σ H ⟨ι, en, st, B, e⟩
  cases m with
  | zero => simp only [whRun] at e; cases e
  | succ m =>
    simp only [whRun] at e
    obtain ⟨⟨t, st1⟩, e1, e2⟩ := Res.bind_ok e
    refine ⟨ι, en, st, t, st1, B.ren, B.rst, e1, fun ι1 H1 p1 S1 x1 => ?_⟩
    have B1 := B.step p1 S1 x1
    cases t with
    | false =>
      cases e2
      exact q ι1 σ H1 B1
    | true =>
      have e2 : ((evS F GL wf sb en st1).bind fun o => match o with
        | .next en1 st2 => whRun (fun en' st' => toB (evE F GL ic en' st')) (fun en' st' => evS F GL wf sb en' st') m en1 st2
        | .ret v st2 => .ok (.ret v st2)
        | .brk en1 st2 => .ok (.next en1 st2)) = .ok o := e2
      obtain ⟨o1, e3, e4⟩ := Res.bind_ok e2
      refine ⟨fun σ' H' => ∃ ι en st, RelB X.K H₀ ι₀ ι en st σ' H' ∧ whRun (fun en' st' => toB (evE F GL ic en' st')) (fun en' st' => evS F GL wf sb en' st') m en st = .ok o, fun σ' H' h => ⟨m, Nat.lt_succ_self m, h⟩, ι1, en, st1, o1, B1, e3, ?_⟩
      cases o1 with
      | next en1 st2 => exact fun ι2 σ2 H2 B2 => ⟨ι2, en1, st2, B2, e4⟩
      | ret v st2 => cases e4; exact q
      | brk en1 st2 => cases e4; exact q
theorem RelB.deep {K : PySem.W.Frag} {ι : List Addr} {en : En} {st : Sto} {σ : L2.St} {H H1 : Hp} {bs : List Hp} {h0 : Hp} (B : RelB K ⟨h0, bs⟩ ι₀ ι en st σ H) (p : Pst H1 H) : RelB K ⟨h0, H1 :: bs⟩ ι₀ ι en st σ H := ⟨B.pre, B.ren, B.rst, B.ext, fun B' hB => by
  rcases List.mem_cons.mp hB with rfl | h
  · exact p
  · exact B.bas B' h, B.own⟩
theorem RelB.flat {K : PySem.W.Frag} {ι : List Addr} {en : En} {st : Sto} {σ : L2.St} {H H1 : Hp} {bs : List Hp} {h0 : Hp} (B : RelB K ⟨h0, H1 :: bs⟩ ι₀ ι en st σ H) : RelB K ⟨h0, bs⟩ ι₀ ι en st σ H := ⟨B.pre, B.ren, B.rst, B.ext, fun B' hB => B.bas B' (List.mem_cons_of_mem _ hB), B.own⟩
theorem pss_all {α : Type} {sts : List Stmt} {t : α → TS} (h : ∀ x, PSs X sts (t x)) : PSs X sts (fun D σ H => ∃ x, t x D σ H) := ⟨fun pins s σ H D I ⟨x, q⟩ => (h x).run pins s σ H D I q⟩
theorem qs_for {tg it : Expr} {g : G} {ii : E} {sb : S} {bs : List Stmt} (hp : PassesOwn (model X.prog X.w) X.A X.env X.xe) (hcalm : X.calm = true) (hi : PI X tg it (TIv F GL X.K ii)) (hg : PG X tg (TGv X.K g)) (hb : ∀ H₀, PSs X bs (TSv F GL wf X.K H₀ ι₀ sb)) (hs : ∀ x, foldedSetIterable it X.env x = pure x) :
    PS X (.For tg it bs [] pos) (TSv F GL wf X.K H₀ ι₀ (.forr g ii sb)) := by
  obtain ⟨h0, bse⟩ := H₀
  refine ps_imp (ps_for hp hcalm hi hg (pss_all hb) hs) fun D σ H ⟨ι, en, st, o, B, e, q⟩ => ?_
  simp only [evS] at e
  obtain ⟨⟨xs, st1⟩, e1, e2⟩ := Res.bind_ok e
  refine ⟨ι, en, st, xs, st1, B.ren, B.rst, e1, fun ι1 J H1 p1 S1 x1 hJ => ?_⟩
  have B1 := B.step p1 S1 x1
  refine ⟨fun i m σ H => m = xs.length - i ∧ i ≤ xs.length ∧ ∃ ι en st, RelB X.K ⟨h0, H1 :: bse⟩ ι₀ ι en st σ H ∧ forRun (fun x en' st' => (Res.ofO (bindG g x en')).bind fun en2 => evS F GL wf sb en2 st') (xs.drop i) en st = .ok o, ⟨xs.length, by simp, Nat.zero_le _, ι1, en, st1, B1.deep (Ext.refl H1).pst, by simpa using e2⟩, ?_⟩
  rintro i m σ H ⟨rfl, hi, ι, en, st, B, e⟩
  have hP : Pst H1 H := B.bas H1 (List.mem_cons_self ..)
  obtain ⟨hgo, hstop, hyld⟩ := hJ H hP
  by_cases hlt : i < xs.length
  · refine .inr ⟨hgo i hlt, ?_⟩
    rw [List.drop_eq_getElem_cons hlt] at e
    simp only [forRun] at e
    obtain ⟨o1, e3, e4⟩ := Res.bind_ok e
    obtain ⟨en2, e5, e6⟩ := Res.bind_ok e3
    refine ⟨fun σ' H' => ∃ ι en st, RelB X.K ⟨h0, H1 :: bse⟩ ι₀ ι en st σ' H' ∧ forRun (fun x en' st' => (Res.ofO (bindG g x en')).bind fun en2 => evS F GL wf sb en2 st') (xs.drop (i + 1)) en st = .ok o, fun σ' H' h => ⟨xs.length - (i + 1), by omega, rfl, hlt, h⟩, fun x H2 hy => ?_⟩
    obtain ⟨sm, d, hd, ad⟩ := hyld i x H2 hlt hy
    rw [List.getElem?_eq_getElem hlt] at hd
    cases hd
    have B2 := B.step (List.prefix_refl _) (B.rst.same sm) (Same.ext' sm)
    refine ⟨ι, en, _, en2, B2.ren, ad, Res.ofO_ok e5, fun σ' R' l' k' => ?_⟩
    refine ⟨_, ι, en2, st, o1, B2.bind (Res.ofO_ok e5) R' k', e6, ?_⟩
    cases o1 with
    | next en3 st3 => exact fun ι3 σ3 H3 B3 => ⟨ι3, en3, st3, B3, e4⟩
    | ret v st3 => cases e4; exact q
    | brk en3 st3 => cases e4; exact fun ι3 σ3 H3 B3 => q ι3 σ3 H3 B3.flat
  · have : i = xs.length := by omega
    subst this
    rw [List.drop_length] at e
    simp only [forRun] at e
    cases e
    exact .inl ⟨hstop, q ι σ H B.flat⟩
/-! ### return: what is owned is frozen -/
def nOwn : En → Nat
  | [] => 0
  | some (.own _) :: r => nOwn r + 1
  | _ :: r => nOwn r
theorem nOwn_set {v : Vl} {l : List PyData} : ∀ (en : En) (i : Nat), getS en i = some (.own l) → nOwn (en.set i (some (.val v))) < nOwn en
  | [], i, h => by simp [getS] at h
  | x :: r, 0, h => by
    have : x = some (.own l) := by simpa [getS] using h
    subst this
    simp [nOwn]
  | x :: r, i + 1, h => by
    have ih := nOwn_set (v := v) r i (by simpa [getS] using h)
    rw [List.set_cons_succ]
    rcases x with _ | _ | _ <;> simp [nOwn, ih]
theorem frz_set {l : List PyData} {en : En} {i : Nat} (h : getS en i = some (.own l)) : frz (en.set i (some (.val (.dat (.list l))))) = frz en := by
  refine List.ext_getElem? fun j => ?_
  unfold frz
  rw [List.getElem?_map, List.getElem?_map]
  have hh : en[i]? = some (some (.own l)) := by
    unfold getS at h
    cases he : en[i]? with
    | none => rw [he] at h; cases h
    | some z => rw [he] at h; exact congrArg some h
  by_cases e : j = i
  · subst e
    rw [List.getElem?_set_self (List.getElem?_eq_some_iff.mp hh).1, hh]
    rfl
  · rw [List.getElem?_set_ne (Ne.symm e)]
theorem frz_none {en : En} (h : ∀ i l, getS en i ≠ some (.own l)) : frz en = en := by
  refine List.ext_getElem? fun j => ?_
  unfold frz
  rw [List.getElem?_map]
  cases he : en[j]? with
  | none => rfl
  | some z =>
    rcases z with _ | _ | l
    · rfl
    · rfl
    · exact absurd (by unfold getS; rw [he]; rfl) (h j l)
theorem RelB.frz1 {K : PySem.W.Frag} {ι : List Addr} {en : En} {st : Sto} {σ : L2.St} {H : Hp} {i : Nat} {p : Addr} {xs : List V} {l : List PyData} {ob : Obj} (B : RelB K H₀ ι₀ ι en st σ H) (h : getS en i = some (.own l)) (hσ : σ[i]? = some (some (.ref p))) (ha : H p = some (.lst xs)) :
    RelB K H₀ ι₀ ι (en.set i (some (.val (.dat (.list l))))) st σ (upd H p (.frz ob (.lst xs))) := by
  obtain ⟨a', xs', g1, g2, g3, g4, g5⟩ := B.ownAt h
  rw [hσ] at g1
  cases g1
  rw [ha] at g2
  cases g2
  have hi : i < en.length := by
    unfold getS at h
    cases hh : en[i]? with
    | none => rw [hh] at h; cases h
    | some z => exact (List.getElem?_eq_some_iff.mp hh).1
  refine ⟨B.pre, ⟨by rw [List.length_set]; exact B.ren.1, fun j s hj => ?_⟩, B.rst.lst ha, ⟨fun b o hb hn => ?_, fun b hb => B.ext.2 b (upd_none hb)⟩, fun B' hB => (B.bas B' hB).trans (Pst.lst ha), fun j l1 hj => ?_⟩
  · rw [getS_set hi] at hj
    by_cases e : j = i
    · subst e
      rw [if_pos rfl] at hj
      cases hj
      exact ⟨.ref p, hσ, At.lst (.inl ⟨ob, upd_same⟩) (g3.pst (Pst.lst ha))⟩
    · rw [if_neg e] at hj
      obtain ⟨v, h1, h2⟩ := B.ren.2 j s hj
      refine ⟨v, h1, ?_⟩
      cases s with
      | val r =>
        cases r with
        | dat d => exact At.pst (Pst.lst ha) d v h2
        | dic k => exact h2
      | own l2 =>
        obtain ⟨b, zs, rfl, h3, h4⟩ := h2
        have : b ≠ p := fun z => e (g5 j l2 hj (by rw [← z]; exact h1))
        exact ⟨b, zs, rfl, by rw [upd_ne this]; exact h3, h4.pst (Pst.lst ha)⟩
  · rw [upd_ne (fun z => by subst z; rw [g4] at hb; cases hb)]
    exact B.ext.1 b o hb hn
  · rw [getS_set hi] at hj
    by_cases e : j = i
    · subst e
      rw [if_pos rfl] at hj
      cases hj
    · rw [if_neg e] at hj
      obtain ⟨b, h1, h2, h3⟩ := B.own j l1 hj
      refine ⟨b, h1, h2, fun k l' q1 q2 => ?_⟩
      rw [getS_set hi] at q1
      by_cases e2 : k = i
      · subst e2
        rw [if_pos rfl] at q1
        cases q1
      · rw [if_neg e2] at q1
        exact h3 k l' q1 q2
theorem frz_all {pins : List (Addr × Obj)} {s : Shared} {σ : L2.St} {ι : List Addr} {st : Sto} : ∀ (n : Nat) (en : En) (H : Hp), nOwn en ≤ n → L2.Inv X pins σ H s → RelB X.K H₀ ι₀ ι en st σ H → ∃ H', L2.Inv X pins σ H' s ∧ RelB X.K H₀ ι₀ ι (frz en) st σ H' := by
  intro n
  induction n with
  | zero =>
    intro en H hn I B
    have : ∀ i l, getS en i ≠ some (.own l) := fun i l h => by
      have := nOwn_set (v := .dat .none) en i h
      omega
    exact ⟨H, I, by rw [frz_none this]; exact B⟩
  | succ n ih =>
    intro en H hn I B
    by_cases h : ∃ i l, getS en i = some (.own l)
    · obtain ⟨i, l, h⟩ := h
      obtain ⟨p, xs, h1, h2, h3, h4, h5⟩ := B.ownAt h
      obtain ⟨o, I2⟩ := inv_frz I h2
      have := nOwn_set (v := .dat (.list l)) en i h
      obtain ⟨H', I', B'⟩ := ih _ _ (by omega) I2 (B.frz1 (ob := o) h h1 h2)
      rw [frz_set h] at B'
      exact ⟨H', I', B'⟩
    · exact ⟨H, I, by rw [frz_none fun i l z => h ⟨i, l, z⟩]; exact B⟩
theorem isOwn_frz (en : En) (e : E) : isOwn (frz en) e = false := by
  cases e with
  | var i =>
    simp only [isOwn]
    have : getS (frz en) i = (getS en i).bind fun s => frzS (some s) := by
      unfold getS frz
      rw [List.getElem?_map]
      cases en[i]? with
      | none => rfl
      | some z => cases z <;> rfl
    rw [this]
    cases getS en i with
    | none => rfl
    | some s => cases s <;> rfl
  | _ => rfl
theorem qs_ret (he : PE X a (TEv F GL X.K ia)) : PS X (.Return (some a) pos) (TSv F GL wf X.K H₀ ι₀ (.ret ia)) := by
  refine ⟨fun pins s σ H D I hq => ?_⟩
  obtain ⟨ι, en, st, o, B, e, q⟩ := hq
  obtain ⟨H', I', B'⟩ := frz_all _ en H (Nat.le_refl _) I B
  refine (ps_ret he).run pins s σ H' D I' ?_
  simp only [evS] at e
  obtain ⟨⟨r, st1⟩, e1, e2⟩ := Res.bind_ok e
  cases e2
  refine ⟨ι, _, st, r, st1, B'.ren, B'.rst, e1, fun ι1 v H1 p1 S1 a1 x1 => ?_⟩
  rw [isOwn_frz] at a1
  exact q ι1 v H1 (B'.pre.trans p1) S1 a1 (B'.ext.trans x1)
/-! ### d[k] = x -/
theorem putK_cons (p : Key × V) (r : List (Key × V)) (k : Key) (v : V) (hn : ((p :: r).map (·.1)).Nodup) : L2.putK (p :: r) k v = if p.1 = k then (k, v) :: r else p :: L2.putK r k v := by
  rw [List.map_cons, List.nodup_cons] at hn
  by_cases e : p.1 = k
  · rw [if_pos e]
    unfold L2.putK
    rw [if_pos (by rw [List.any_cons, decide_eq_true e, Bool.true_or]), List.map_cons, if_pos e, e]
    congr 1
    refine (List.map_congr_left fun q hq => ?_).trans (List.map_id _)
    exact if_neg fun z => hn.1 (by rw [e, ← z]; exact List.mem_map_of_mem hq)
  · rw [if_neg e]
    unfold L2.putK
    rw [List.any_cons, decide_eq_false e, Bool.false_or]
    split
    · rw [List.map_cons, if_neg e]
    · rfl
theorem KVs.keys {K : PySem.W.Frag} {H : Hp} : ∀ {kvs : List (Str × PyData)} {ws : List (Key × V)}, KVs K H kvs ws → ws.map (·.1) = (kvs.map (·.1)).map Sum.inr
  | _, _, .nil => rfl
  | _, _, .cons h t => by rw [List.map_cons, List.map_cons, List.map_cons, h.1, KVs.keys t]
theorem KVs.put {K : PySem.W.Frag} {H : Hp} {k : Str} {d : PyData} {v : V} (a : At K H v d) : ∀ {kvs : List (Str × PyData)} {ws : List (Key × V)}, KVs K H kvs ws → (kvs.map (·.1)).Nodup → KVs K H (putK k d kvs) (L2.putK ws (.inr k) v)
  | _, _, .nil, _ => .cons ⟨rfl, a⟩ .nil
  | p :: r, q :: t, .cons h hr, hn => by
    have hn2 : ((q :: t).map (·.1)).Nodup := by
      rw [KVs.keys (.cons h hr)]
      exact (List.pairwise_map.mpr (hn.imp fun hne z => hne (Sum.inr.inj z)))
    rw [putK_cons q t _ v hn2]
    unfold putK
    by_cases e : p.1 = k
    · rw [if_pos e, if_pos (by rw [h.1, e])]
      exact .cons ⟨rfl, a⟩ hr
    · rw [if_neg e, if_neg (by rw [h.1]; exact fun z => e (Sum.inr.inj z))]
      rw [List.map_cons, List.nodup_cons] at hn
      exact .cons h (KVs.put a hr hn.2)
theorem putK_keys (k : Str) (d : PyData) : ∀ kvs : List (Str × PyData), (putK k d kvs).map (·.1) = if k ∈ kvs.map (·.1) then kvs.map (·.1) else kvs.map (·.1) ++ [k]
  | [] => rfl
  | p :: r => by
    unfold putK
    by_cases e : p.1 = k
    · rw [if_pos e, List.map_cons, List.map_cons, if_pos (by rw [e]; exact List.mem_cons_self ..), e]
    · rw [if_neg e, List.map_cons, putK_keys k d r, List.map_cons]
      by_cases m : k ∈ r.map (·.1)
      · rw [if_pos m, if_pos (List.mem_cons_of_mem _ m)]
      · rw [if_neg m, if_neg (by simp only [List.mem_cons, not_or]; exact ⟨fun z => e z.symm, m⟩)]
        rfl
theorem putK_nodup {k : Str} {d : PyData} {kvs : List (Str × PyData)} (h : (kvs.map (·.1)).Nodup) : ((putK k d kvs).map (·.1)).Nodup := by
  rw [putK_keys]
  split
  · exact h
  · rename_i m
    rw [List.nodup_append]
    exact ⟨h, List.nodup_cons.mpr ⟨List.not_mem_nil, List.nodup_nil⟩, fun x hx y hy z => m (by rw [← List.mem_singleton.mp hy, ← z]; exact hx)⟩
theorem qs_dput {i : Nat} {x k : Str} {p p2 p3 : Pos} {j : Nat} (hu : X.A.units + 1 < cLine) (hN : X.N[i]? = some x) (hv : Vis X.env.scope x) (hd : (x == ("__debug__" : Str)) = false) (hcd : (x == ("__classdict__" : Str)) = false) (he : PE X a (TEv F GL X.K ia)) (hs : swapsWith a (some (.Subscript (.Name x p) (.Constant (.str k) j p2) p3)) pos.line X.env = pure false) :
    PS X (.Assign [.Subscript (.Name x p) (.Constant (.str k) j p2) p3] a pos) (TSv F GL wf X.K H₀ ι₀ (.dput i k ia)) := by
  refine ps_imp (ps_dput hu (pe_var hN hv hd hcd) pe_str he hs) fun D σ H ⟨ι, en, st, o, B, e, q⟩ => ?_
  simp only [evS] at e
  split at e
  · rename_i n hg
    split at e
    · cases e
    · rename_i ho
      rw [Bool.not_eq_true] at ho
      obtain ⟨⟨y, st1⟩, e1, e2⟩ := Res.bind_ok e
      simp only at e2
      split at e2
      · rename_i kvs hk
        split at e2
        · rename_i hl
          cases e2
          refine ⟨ι, en, st, _, st1, B.ren, B.rst, toD_ok e1, fun ι1 v H1 p1 S1 a1 x1 => ?_⟩
          rw [ho] at a1
          have B1 := B.step p1 S1 x1
          obtain ⟨A, ws, h1, h2, h3, h4, h5⟩ := slot_dic B1.ren S1 hg hk
          have hlen : ws.length < sizeLine := by
            have : ws.length = kvs.length := by
              have := congrArg List.length (KVs.keys h4)
              simpa using this
            have h1000 : (1000 : Nat) ≤ sizeLine := by decide
            omega
          have x2 : Ext H1 (upd H1 A (.dK (L2.putK ws (.inr k) v))) := ⟨fun b o hb hn => by
            rw [upd_ne (fun z => by subst z; rw [h3] at hb; cases hb; exact hn _ rfl)]
            exact hb, fun b hb => upd_none hb⟩
          refine ⟨.ref A, h1, A, _, rfl, DPut.k (k := Sum.inr k) h3 hlen, q ι1 σ _ (B1.step (List.prefix_refl _) ⟨?_, S1.nod, fun m b kvs' g1 g2 => ?_⟩ x2)⟩
          · rw [List.length_set]; exact S1.len
          · by_cases hm : m = n
            · subst hm
              rw [h2] at g1
              cases g1
              rw [List.getElem?_set_self (List.getElem?_eq_some_iff.mp hk).1] at g2
              cases g2
              exact ⟨_, upd_same, (KVs.put a1 h4 h5).pst x2.pst, putK_nodup h5⟩
            · rw [List.getElem?_set_ne (Ne.symm hm)] at g2
              obtain ⟨ws', w1, w2, w3⟩ := S1.at_ m b kvs' g1 g2
              have : b ≠ A := fun z => hm (nodup_at S1.nod (by rw [← z]; exact g1) h2)
              exact ⟨ws', by rw [upd_ne this]; exact w1, w2.pst x2.pst, w3⟩
        · cases e2
      · cases e2
  · cases e
end
end Rv

set_option Elab.async false
set_option linter.all false
set_option maxRecDepth 100000
set_option maxHeartbeats 1000000
/-! Rv, part F: the rules in short (for printed terms), a def, the law's end. -/
namespace Rv
open PySem PySem.Spec PyProof.Rows L2
def lenE : E → Nat
  | .cons _ r => lenE r + 1
  | _ => 0
def lenG : G → Nat
  | .cons _ r => lenG r + 1
  | _ => 0
theorem bindGs_len : ∀ (g : G) (ds : List PyData) (en en' : En), bindG.bindGs g ds en = some en' → ds.length = lenG g
  | .nil, [], _, _, _ => rfl
  | .cons a r, x :: l, en, en', h => by
    simp only [bindG.bindGs] at h
    split at h
    · exact congrArg (· + 1) (bindGs_len r l _ _ h)
    · cases h
  | .nil, _ :: _, _, _, h => by simp [bindG.bindGs] at h
  | .cons _ _, [], _, _, h => by simp [bindG.bindGs] at h
  | .nm _, _, _, _, h => by simp [bindG.bindGs] at h
  | .tp _, _, _, _, h => by simp [bindG.bindGs] at h
/-- module constants -/
def GdOk (K : PySem.W.Frag) (mg : Str → Option Value) (GL : Str → Option PyData) : Prop := ∀ x d, GL x = some d → ∃ u v, mg x = some u ∧ RelV v u ∧ ∀ H, At K H v d
/-- built-ins that stay -/
def BtOk (mg : Str → Option Value) (bs : List Str) : Prop := ∀ x, x ∈ bs → mg x = none
/-- a def that may be called -/
def FnAt (P : Program) (w : World) (K : PySem.W.Frag) (mg : Str → Option Value) (base : Heap) (k : Nat) (F : Str → List Vl → Sto → Res (Vl × Sto)) (f : Str) (np : Nat) : Prop :=
  ∃ fa fd ps, FnG P w K mg base CX0 k fa fd ps (FnSp K (F f) ps.length) ∧ mg f = some (.ref fa) ∧ PySem.W.keepIn K (.ref fa) = true ∧ Binds K fd ps [] ∧ ps.length = np
def FnsOk (P : Program) (w : World) (K : PySem.W.Frag) (mg : Str → Option Value) (base : Heap) (k : Nat) (F : Str → List Vl → Sto → Res (Vl × Sto)) (tbl : List (Str × Fn)) : Prop := ∀ f fn, tbl.lookup f = some fn → FnAt P w K mg base k F f fn.np
section
variable {X : Cx} {F : Str → List Vl → Sto → Res (Vl × Sto)} {GL : Str → Option PyData} {wf : Nat} {H₀ : Bs} {ι₀ : List Addr} {pos : Pos} {a b c : Expr} {ia ib ic : E} {stt : Stmt} {bs : List Str} {tbl : List (Str × Fn)} {k : Nat}
theorem evL_len : ∀ (ie : E) (en : En) (st : Sto) (rs : List Vl) (st' : Sto), evL F GL ie en st = .ok (rs, st') → rs.length = lenE ie := by
  intro ie
  induction ie with
  | nil => intro en st rs st' h; simp only [evL] at h; cases h; rfl
  | cons a r _ ih =>
    intro en st rs st' h
    simp only [evL] at h
    split at h
    · cases h
    · obtain ⟨⟨x, st1⟩, e1, e2⟩ := Res.bind_ok h
      obtain ⟨⟨xs, st2⟩, e3, e4⟩ := Res.bind_ok e2
      cases e4
      exact congrArg (· + 1) (ih _ _ _ _ e3)
  | _ => intro en st rs st' h; simp only [evL] at h; cases h
theorem xv (i : Nat) {x : Str} (hN : X.N[i]? = some x := by rfl) (hv : Vis X.env.scope x := by first | exact Or.inl rfl | exact Or.inr (Or.inl rfl) | exact Or.inr (Or.inr rfl)) (hd : (x == ("__debug__" : Str)) = false := by decide) (hcd : (x == ("__classdict__" : Str)) = false := by decide) : PE X (.Name x pos) (TEv F GL X.K (.var i)) := qe_var hN hv hd hcd
theorem xg {x : Str} {d : PyData} (G : GdOk X.K X.mg GL) (he : GL x = some d := by rfl) (hg : Gl X x := by rfl) (hd : (x == ("__debug__" : Str)) = false := by decide) : PE X (.Name x pos) (TEv F GL X.K (.glb x)) := by
  obtain ⟨u, v, h1, h2, h3⟩ := G x d he
  exact qe_glb hg h1 h2 h3 he hd
theorem hu65 {A : Around} (hr : RoomG k A) : A.units + 65 < cLine := by have := hr.rm.un; omega
theorem hu1 {A : Around} (hr : RoomG k A) : A.units + 1 < cLine := by have := hr.rm.un; omega
theorem xc {op : CmpOp} (hr : RoomG k X.A) (ha : PE X a (TEv F GL X.K ia)) (hb : PE X b (TEv F GL X.K ib)) (hm : behindInMarks op b = false := by rfl) : PE X (.Compare a [op] [b] pos) (TEv F GL X.K (.cmp op ia ib)) := qe_cmp (hu65 hr) ha hb hm
theorem xct {op : CmpOp} (hr : RoomG k X.A) (ha : PE X a (TEv F GL X.K ia)) (hb : PE X b (TEv F GL X.K ib)) (hm : behindInMarks op b = false := by rfl) : PT X (.Compare a [op] [b] pos) (TTv F GL X.K (.cmp op ia ib)) := qt_cmp (hu65 hr) ha hb hm
theorem xh {o1 o2 : CmpOp} (hr : RoomG k X.A) (ha : PE X a (TEv F GL X.K ia)) (hb : PE X b (TEv F GL X.K ib)) (hc : PE X c (TEv F GL X.K ic)) (hm : lastMarks [o1, o2] [b, c] = false := by rfl) : PE X (.Compare a [o1, o2] [b, c] pos) (TEv F GL X.K (.chn o1 o2 ia ib ic)) := qe_chn (hu65 hr) ha hb hc hm
theorem xht {o1 o2 : CmpOp} (hr : RoomG k X.A) (ha : PE X a (TEv F GL X.K ia)) (hb : PE X b (TEv F GL X.K ib)) (hc : PE X c (TEv F GL X.K ic)) (hm : lastMarks [o1, o2] [b, c] = false := by rfl) : PT X (.Compare a [o1, o2] [b, c] pos) (TTv F GL X.K (.chn o1 o2 ia ib ic)) := qt_chn (hu65 hr) ha hb hc hm
theorem xt (h : PE X a (TEv F GL X.K ia)) (he : ∀ whole, isTrue a X.env whole = (do let v ← whole; standAt a.pos; holding [v] (truthy v)) := by intro _; rfl) : PT X a (TTv F GL X.K ia) := qt_val h he
theorem xl {es : List Expr} {ir : E} (ha : PE X a (TEv F GL X.K ia)) (hr : PA X es (TLv F GL X.K ir)) (hs : starEach (a :: es) X.env = (false, eval a X.env) :: starEach es X.env := by rfl) : PA X (a :: es) (TLv F GL X.K (.cons ia ir)) := ql_cons ha hr hs
theorem xr {es : List Expr} {ir : E} (ha : PE X a (TEv F GL X.K ia)) (hr : PA X es (TRv F GL X.K ir)) (hs : starEach (a :: es) X.env = (false, eval a X.env) :: starEach es X.env := by rfl) : PA X (a :: es) (TRv F GL X.K (.cons ia ir)) := qr_cons ha hr hs
theorem xi (ha : PE X a (TEv F GL X.K ia)) (hb : PE X b (TEv F GL X.K ib)) (hs : PlainIx b := by intro _ _; rfl) : PE X (.Subscript a b pos) (TEv F GL X.K (.idx ia ib)) := qe_idx ha hb hs
theorem xf {f : Str} {fn : Fn} {es : List Expr} {ie : E} {p : Pos} (Fs : FnsOk X.prog X.w X.K X.mg X.base k F tbl) (hr : RoomG k X.A) (ha : PA X (a :: es) (TLv F GL X.K ie)) (ht : tbl.lookup f = some fn := by rfl) (hn : lenE ie = fn.np := by rfl) (hg : Gl X f := by rfl)
    (hdb : (f == ("__debug__" : Str)) = false := by decide) (he : starEach (a :: es) X.env = (false, eval a X.env) :: starEach es X.env := by rfl) (hpl : (backTo pos (starEach es X.env)).any (·.1) = false := by rfl) : PE X (.Call (.Name f p) (a :: es) [] pos) (TEv F GL X.K (.call f ie)) := by
  obtain ⟨fa, fd, ps, h1, h2, h3, h4, h5⟩ := Fs f fn ht
  exact qe_call h1 hr hg h2 h3 h4 ha hdb he hpl fun en st rs st' h => by rw [evL_len ie en st rs st' h, hn, h5]
theorem xb {f : Str} {id : String} {g : List PyData → Option PyData} {es : List Expr} {ie : E} {p : Pos} (Bt : BtOk X.mg bs) (hc : CallR X (.builtin id) (rCal X.K g)) (ha : PA X (a :: es) (TRv F GL X.K ie)) (hgd : ∀ xs, bifD f xs = g xs := by intro _; rfl) (hv : bootBuiltins f = some (.builtin id) := by rfl)
    (hm : f ∈ bs := by decide) (hg : Gl X f := by rfl) (hn : f ≠ "__name__" := by decide) (hdb : (f == ("__debug__" : Str)) = false := by decide) (he : starEach (a :: es) X.env = (false, eval a X.env) :: starEach es X.env := by rfl) (hpl : (backTo pos (starEach es X.env)).any (·.1) = false := by rfl) :
    PE X (.Call (.Name f p) (a :: es) [] pos) (TEv F GL X.K (.bif f ie)) := qe_bif hc hgd hg (Bt f hm) hv ha hn hdb he hpl
theorem xy {f : Str} {T : String} {g : List PyData → Option PyData} {es : List Expr} {ie : E} {p : Pos} (Bt : BtOk X.mg bs) (hc : CallR X (.type T) (rCal X.K g)) (ha : PA X (a :: es) (TRv F GL X.K ie)) (hgd : ∀ xs, bifD f xs = g xs := by intro _; rfl) (hv : bootBuiltins f = some (.type T) := by rfl)
    (hm : f ∈ bs := by decide) (hg : Gl X f := by rfl) (hn : f ≠ "__name__" := by decide) (hdb : (f == ("__debug__" : Str)) = false := by decide) (he : starEach (a :: es) X.env = (false, eval a X.env) :: starEach es X.env := by rfl) (hpl : (backTo pos (starEach es X.env)).any (·.1) = false := by rfl) :
    PE X (.Call (.Name f p) (a :: es) [] pos) (TEv F GL X.K (.bif f ie)) := qe_bty hc hgd hg (Bt f hm) hv ha hn hdb he hpl
theorem xm {o e : Expr} {es : List Expr} {io ie : E} {m : Str} {apos cpos : Pos} (ho : PE X o (TEv F GL X.K io)) (ha : PA X (e :: es) (TRv F GL X.K ie)) (hbase : attributeBase o m X.env (eval o X.env) = eval o X.env := by rfl)
    (hfew : ((backTo cpos (starEach (e :: es) X.env)).all (fun x => !x.1) && (backToKw cpos (keywordEach [] X.env)).all (fun x => x.1.isSome) && decide ((e :: es).length + ([] : List Keyword).length + (if ([] : List Keyword).isEmpty then 0 else 1) < 30)) = true := by rfl)
    (hline : (apos.endLine == cpos.line) = true := by rfl) (hs : starEach (e :: es) X.env = (false, eval e X.env) :: starEach es X.env := by rfl) (hplain : (backTo cpos (starEach es X.env)).any (·.1) = false := by rfl) :
    PE X (.Call (.Attribute o m apos) (e :: es) [] cpos) (TEv F GL X.K (.mth m io ie)) := qe_mth ho ha hbase hfew hline hs hplain
theorem xs {t : String} {p p2 : Pos} {tx : Str} (Bt : BtOk X.mg bs) (ha : PE X a (TEv F GL X.K ia)) (hm : ("isinstance" : Str) ∈ bs := by decide) (hmt : tx ∈ bs := by decide) (hg : Gl X "isinstance" := by rfl) (hgt : Gl X tx := by rfl) (hbt : bootBuiltins tx = some (.type t) := by rfl) (hnt : tx ≠ "__name__" := by decide) (hdt : (tx == ("__debug__" : Str)) = false := by decide)
    (he : starEach (a :: [.Name tx p2]) X.env = (false, eval a X.env) :: starEach [.Name tx p2] X.env := by rfl) : PE X (.Call (.Name "isinstance" p) [a, .Name tx p2] [] pos) (TEv F GL X.K (.isi ia t)) := qe_isi ha hg (Bt _ hm) hgt (Bt _ hmt) hbt hnt hdt he
theorem xdg (i : Nat) {x q : Str} {p p2 : Pos} {j : Nat} (hr : RoomG k X.A) (hN : X.N[i]? = some x := by rfl) (hv : Vis X.env.scope x := by first | exact Or.inl rfl | exact Or.inr (Or.inl rfl) | exact Or.inr (Or.inr rfl)) (hd : (x == ("__debug__" : Str)) = false := by decide) (hcd : (x == ("__classdict__" : Str)) = false := by decide) :
    PE X (.Subscript (.Name x p) (.Constant (.str q) j p2) pos) (TEv F GL X.K (.dget i q)) := qe_dget (hu1 hr) hN hv hd hcd
theorem xdc {q : Str} {j : Nat} {p2 : Pos} {v : Expr} {ks : List (Option Expr)} {vs : List Expr} {qs : List Str} {iv ir : E} (hv : PE X v (TEv F GL X.K iv)) (hr : PPs X pos ks vs (TDs F GL X.K qs ir)) : PPs X pos (some (.Constant (.str q) j p2) :: ks) (v :: vs) (TDs F GL X.K (q :: qs) (.cons iv ir)) := pps_cons pe_str hv hr
theorem xdn : PPs X pos [] [] (TDs F GL X.K [] .nil) := pps_nil
theorem xdw {keys : List (Option Expr)} {values : List Expr} {ks : List Str} {ie : E} (h : PPs X pos keys values (TDs F GL X.K ks ie)) (hall : keys.all (·.isSome) = true := by rfl) (hl : keys.length = values.length := by rfl) (h0 : keys ≠ [] := by exact List.cons_ne_nil _ _) (h15 : keys.length ≤ 15 := by exact (by decide)) :
    PE X (.Dict keys values pos) (TEv F GL X.K (.dnew ks ie)) := qe_dnew h hall hl h0 h15
/-! targets, walks -/
theorem xn (i : Nat) {x : Str} (hN : X.N.Nodup) (hi : X.N[i]? = some x := by rfl) (hx : Loc X.env.scope x := by first | exact .inl rfl | exact .inr rfl) (hf : X.fn x = true ∨ X.env.scope.names.lookup x = some .local := by first | exact .inl rfl | exact .inr rfl) : PG X (.Name x pos) (TGv X.K (.nm i)) := qg_name hN hi hx hf
theorem xgc {e : Expr} {es : List Expr} {g r : G} (h1 : PG X e (TGv X.K g)) (h2 : PGs X es (TGs' X.K r)) (hs : (assignEach (e :: es) X.env).map (·.2) = assign e X.env :: (assignEach es X.env).map (·.2) := by rfl) : PGs X (e :: es) (TGs' X.K (.cons g r)) := qgs_cons h1 h2 hs
theorem xgt {es : List Expr} {n : Nat} {g : G} (h : PGs X es (TGs' X.K g)) (hc : X.calm = true := by rfl) (hst : (assignEach es X.env).findIdx? (·.1) = none := by rfl) (hlen : lenG g = (assignEach es X.env).length := by rfl) : PG X (.Tuple es n pos) (TGv X.K (.tp g)) := qg_tup hc h hst fun ds en en' h => by rw [← hlen]; exact bindGs_len g ds en en' h
theorem xr1 {tg : Expr} {p : Pos} (Bt : BtOk X.mg bs) (ha : PE X a (TEv F GL X.K ia)) (hg : Gl X "range" := by rfl) (hm : ("range" : Str) ∈ bs := by decide) (hs2 : starEach [a] X.env = [(false, eval a X.env)] := by rfl) : PI X tg (.Call (.Name "range" p) [a] [] pos) (TIv F GL X.K (.rng1 ia)) := qi_rng1 hg (Bt _ hm) ha hs2 hs2
theorem xr2 {tg : Expr} {p : Pos} (Bt : BtOk X.mg bs) (ha : PE X a (TEv F GL X.K ia)) (hb : PE X b (TEv F GL X.K ib)) (hg : Gl X "range" := by rfl) (hm : ("range" : Str) ∈ bs := by decide) (hs : starEach [a, b] X.env = (false, eval a X.env) :: starEach [b] X.env := by rfl) (hs2 : starEach [b] X.env = (false, eval b X.env) :: starEach [] X.env := by rfl) (hpl : (backTo pos (starEach [b] X.env)).any (·.1) = false := by rfl) :
    PI X tg (.Call (.Name "range" p) [a, b] [] pos) (TIv F GL X.K (.rng2 ia ib)) := qi_rng2 hg (Bt _ hm) ha hb hs hs2 hpl
theorem xen {p tpos : Pos} {elts : List Expr} {kk : Nat} (Bt : BtOk X.mg bs) (ha : PE X a (TEv F GL X.K ia)) (hg : Gl X "enumerate" := by rfl) (hm : ("enumerate" : Str) ∈ bs := by decide) (hs2 : starEach [a] X.env = [(false, eval a X.env)] := by rfl) :
    PI X (.Tuple elts kk tpos) (.Call (.Name "enumerate" p) [a] [] pos) (TIv F GL X.K (.enm ia)) := qi_enm hg (Bt _ hm) ha hs2 hs2
theorem xzp {p tpos : Pos} {elts : List Expr} {kk : Nat} (Bt : BtOk X.mg bs) (ha : PE X a (TEv F GL X.K ia)) (hb : PE X b (TEv F GL X.K ib)) (hg : Gl X "zip" := by rfl) (hm : ("zip" : Str) ∈ bs := by decide) (hs : starEach [a, b] X.env = (false, eval a X.env) :: starEach [b] X.env := by rfl) (hs2 : starEach [b] X.env = (false, eval b X.env) :: starEach [] X.env := by rfl) (hpl : (backTo pos (starEach [b] X.env)).any (·.1) = false := by rfl) :
    PI X (.Tuple elts kk tpos) (.Call (.Name "zip" p) [a, b] [] pos) (TIv F GL X.K (.zp ia ib)) := qi_zp hg (Bt _ hm) ha hb hs hs2 hpl
/-! new lists -/
theorem xlc {elt tg iter : Expr} {ifs : List Expr} {scope : Scope} {own : List (Str × Nat)} {ielt iit iifs : E} {ig : G} (hN : X.N.Nodup) (hi : PI X tg iter (TIv F GL X.K iit)) (hg : ∀ (s : Shared) (H : Hp) (C : Addr) (cl : List (Str × Addr)) (fp : List Addr), PG (X.blk s H scope (compEnvC scope cl C X.env) fp) tg (TGv X.K ig))
    (ht : ∀ (s : Shared) (H : Hp) (C : Addr) (cl : List (Str × Addr)) (fp : List Addr), PTs (X.blk s H scope (compEnvC scope cl C X.env) fp) ifs (TTs F GL X.K iifs)) (he : ∀ (s : Shared) (H : Hp) (C : Addr) (cl : List (Str × Addr)) (fp : List Addr), PE (X.blk s H scope (compEnvC scope cl C X.env) fp) elt (TEv F GL X.K ielt))
    (ok : blkC X.N X.env.scope scope own = true := by rfl) (hc : X.calm = true := by rfl) (hown : ((slotsG ig).all fun i => decide (i ∈ own.map (·.2))) = true := by rfl) (hs : ∀ x, foldedSetIterable iter X.env x = pure x := by intro _; rfl) : PE X (.ListComp elt [⟨tg, iter, ifs, 0⟩] scope pos) (TFr F GL X.K (.lc ielt own ig iit iifs)) :=
  pe_imp (pe_lc hc hN hi (blkOk_by ok) hg ht he hs) (qf_lc (X := X) (scope := scope) (elt := elt) (tg := tg) (iter := iter) (ifs := ifs) (fun _ _ _ h => h) (fun _ _ _ _ h => h) (fun _ _ _ h => h) (fun _ _ _ h => h) fun i hi => of_decide_eq_true (List.all_eq_true.mp hown i hi))
theorem lc_list {elt it ifs : E} {own : List (Str × Nat)} {tg : G} : ∀ en st r st', evE F GL (.lc elt own tg it ifs) en st = .ok (r, st') → ∃ l, r = .dat (.list l) := fun en st r st' e => by
  simp only [evE] at e
  obtain ⟨⟨xs, st1⟩, e1, e2⟩ := Res.bind_ok e
  obtain ⟨⟨ys, st2⟩, e3, e4⟩ := Res.bind_ok e2
  simp only at e4
  split at e4
  · cases e4; exact ⟨_, rfl⟩
  · cases e4
theorem xlv {e : Expr} {elt it ifs : E} {own : List (Str × Nat)} {tg : G} (h : PE X e (TFr F GL X.K (.lc elt own tg it ifs))) : PE X e (TEv F GL X.K (.lc elt own tg it ifs)) := fr_te h (fun _ => rfl) lc_list fun _ _ _ h => h
theorem xfl {es : List Expr} {ie : E} {p : Pos} (Bt : BtOk X.mg bs) (ha : PA X (a :: es) (TRv F GL X.K ie)) (hg : Gl X "list" := by rfl) (hm : ("list" : Str) ∈ bs := by decide) (he : starEach (a :: es) X.env = (false, eval a X.env) :: starEach es X.env := by rfl) (hpl : (backTo pos (starEach es X.env)).any (·.1) = false := by rfl) :
    PE X (.Call (.Name "list" p) (a :: es) [] pos) (TFr F GL X.K (.bif "list" ie)) := qf_list hg (Bt _ hm) rfl ha he hpl
/-! statements -/
theorem sV (i : Nat) {x : Str} {pos' : Pos} (hN : X.N.Nodup) (he : PE X a (TEv F GL X.K ia)) (hi : X.N[i]? = some x := by rfl) (hx : Loc X.env.scope x := by first | exact .inl rfl | exact .inr rfl) (hs : swapsWith a (some (.Name x pos')) pos.line X.env = pure false := by rfl) (hf : X.fn x = true ∨ X.env.scope.names.lookup x = some .local := by first | exact .inl rfl | exact .inr rfl) :
    PS X (.Assign [.Name x pos'] a pos) (TSv F GL wf X.K H₀ ι₀ (.asg (.nm i) ia)) := qs_asgV (ps_set hN hi hx he hs hf) fun _ _ _ h => h
theorem sO (i : Nat) {x : Str} {pos' : Pos} (hN : X.N.Nodup) (he : PE X a (TFr F GL X.K ia)) (hi : X.N[i]? = some x := by rfl) (hx : Loc X.env.scope x := by first | exact .inl rfl | exact .inr rfl) (hs : swapsWith a (some (.Name x pos')) pos.line X.env = pure false := by rfl) (hf : X.fn x = true ∨ X.env.scope.names.lookup x = some .local := by first | exact .inl rfl | exact .inr rfl) :
    PS X (.Assign [.Name x pos'] a pos) (TSv F GL wf X.K H₀ ι₀ (.asgO i ia)) := qs_asgO (ps_set hN hi hx he hs hf) fun _ _ _ h => h
/-- name = [.. for ..] where the value is stored within -/
theorem sLc (i : Nat) {y : Str} {py spos : Pos} {elt tg iter : Expr} {ifs : List Expr} {scope : Scope} {own : List (Str × Nat)} {ielt iit iifs : E} {ig : G} (hN : X.N.Nodup) (hi : PI X tg iter (TIv F GL X.K iit)) (hg : ∀ (s : Shared) (H : Hp) (C : Addr) (cl : List (Str × Addr)) (fp : List Addr), PG (X.blk s H scope (compEnvC scope cl C X.env) fp) tg (TGv X.K ig))
    (ht : ∀ (s : Shared) (H : Hp) (C : Addr) (cl : List (Str × Addr)) (fp : List Addr), PTs (X.blk s H scope (compEnvC scope cl C X.env) fp) ifs (TTs F GL X.K iifs)) (he : ∀ (s : Shared) (H : Hp) (C : Addr) (cl : List (Str × Addr)) (fp : List Addr), PE (X.blk s H scope (compEnvC scope cl C X.env) fp) elt (TEv F GL X.K ielt))
    (hy : X.N[i]? = some y := by rfl) (hyl : X.env.scope.names.lookup y = some .local := by rfl) (hk : X.env.scope.kind = .function := by rfl) (hl : (py.line == pos.line) = true := by rfl) (ha : (scope.names.any fun (n, k) => n == y && (k == .local || k == .cell)) = false := by rfl) (ok : blkC X.N X.env.scope scope own = true := by rfl) (hc : X.calm = true := by rfl) (hown : ((slotsG ig).all fun i => decide (i ∈ own.map (·.2))) = true := by rfl) (hs : ∀ x, foldedSetIterable iter X.env x = pure x := by intro _; rfl) :
    PS X (.Assign [.Name y py] (.ListComp elt [⟨tg, iter, ifs, 0⟩] scope pos) spos) (TSv F GL wf X.K H₀ ι₀ (.asg (.nm i) (.lc ielt own ig iit iifs))) :=
  qs_asgF (ps_setLc hc hN hy hyl (sw_true hk hyl hl ha) hi (blkOk_by ok) hg ht he hs) lc_list (qf_lc (X := X) (scope := scope) (elt := elt) (tg := tg) (iter := iter) (ifs := ifs) (fun _ _ _ h => h) (fun _ _ _ _ h => h) (fun _ _ _ h => h) (fun _ _ _ h => h) fun i hi => of_decide_eq_true (List.all_eq_true.mp hown i hi))
theorem sLcO (i : Nat) {y : Str} {py spos : Pos} {elt tg iter : Expr} {ifs : List Expr} {scope : Scope} {own : List (Str × Nat)} {ielt iit iifs : E} {ig : G} (hN : X.N.Nodup) (hi : PI X tg iter (TIv F GL X.K iit)) (hg : ∀ (s : Shared) (H : Hp) (C : Addr) (cl : List (Str × Addr)) (fp : List Addr), PG (X.blk s H scope (compEnvC scope cl C X.env) fp) tg (TGv X.K ig))
    (ht : ∀ (s : Shared) (H : Hp) (C : Addr) (cl : List (Str × Addr)) (fp : List Addr), PTs (X.blk s H scope (compEnvC scope cl C X.env) fp) ifs (TTs F GL X.K iifs)) (he : ∀ (s : Shared) (H : Hp) (C : Addr) (cl : List (Str × Addr)) (fp : List Addr), PE (X.blk s H scope (compEnvC scope cl C X.env) fp) elt (TEv F GL X.K ielt))
    (hy : X.N[i]? = some y := by rfl) (hyl : X.env.scope.names.lookup y = some .local := by rfl) (hk : X.env.scope.kind = .function := by rfl) (hl : (py.line == pos.line) = true := by rfl) (ha : (scope.names.any fun (n, k) => n == y && (k == .local || k == .cell)) = false := by rfl) (ok : blkC X.N X.env.scope scope own = true := by rfl) (hc : X.calm = true := by rfl) (hown : ((slotsG ig).all fun i => decide (i ∈ own.map (·.2))) = true := by rfl) (hs : ∀ x, foldedSetIterable iter X.env x = pure x := by intro _; rfl) :
    PS X (.Assign [.Name y py] (.ListComp elt [⟨tg, iter, ifs, 0⟩] scope pos) spos) (TSv F GL wf X.K H₀ ι₀ (.asgO i (.lc ielt own ig iit iifs))) :=
  qs_asgO (ps_setLc hc hN hy hyl (sw_true hk hyl hl ha) hi (blkOk_by ok) hg ht he hs) (qf_lc (X := X) (scope := scope) (elt := elt) (tg := tg) (iter := iter) (ifs := ifs) (fun _ _ _ h => h) (fun _ _ _ _ h => h) (fun _ _ _ h => h) (fun _ _ _ h => h) fun i hi => of_decide_eq_true (List.all_eq_true.mp hown i hi))
theorem sG {tg : Expr} {g : G} (he : PE X a (TEv F GL X.K ia)) (hg : PG X tg (TGv X.K g)) (hn : ∀ i, g ≠ .nm i := by intro _ h; cases h) (hs : swapsWithSole [tg] a pos.line X.env = pure false := by rfl) (hw : swappedStores [tg] a X.env = pure none := by rfl) (h1 : (assignEach [tg] X.env).map (·.2) = [assign tg X.env] := by rfl) : PS X (.Assign [tg] a pos) (TSv F GL wf X.K H₀ ι₀ (.asg g ia)) :=
  qs_asgG (ps_asg he hg hs hw h1) (fun _ _ _ h => h) (fun _ _ _ _ h => h) hn
theorem par_gets {i j : Nat} {ta : TA} : ∀ (D : Ends) (σ : L2.St) (H : Hp), tParG i j ta D σ H → (∀ {Q Q' : List V → Hp → Prop}, (∀ vs H, Q vs H → Q' vs H) → ta σ H Q → ta σ H Q') → tPar i j ta D σ H := fun D σ H h m => m (fun vs H1 ⟨v, w, e, q⟩ => ⟨v, w, e, q H1 (Same.refl _)⟩) h
theorem tEv_mono {ie : E} {σ : L2.St} {H : Hp} {Q Q' : VK} (h : TEv F GL X.K ie σ H Q) (q : ∀ v H, Q v H → Q' v H) : TEv F GL X.K ie σ H Q' := by
  obtain ⟨ι, en, st, r, st', R, S, e, k⟩ := h
  exact ⟨ι, en, st, r, st', R, S, e, fun ι' v H' p s a x => q _ _ (k ι' v H' p s a x)⟩
theorem tFr_mono {ie : E} {σ : L2.St} {H : Hp} {Q Q' : VK} (h : TFr F GL X.K ie σ H Q) (q : ∀ v H, Q v H → Q' v H) : TFr F GL X.K ie σ H Q' := by
  obtain ⟨ι, en, st, r, st', R, S, e, k⟩ := h
  exact ⟨ι, en, st, r, st', R, S, e, fun ι' p xs H' p1 s h1 h2 a x => q _ _ (k ι' p xs H' p1 s h1 h2 a x)⟩
theorem tAs_mono {o : Bool} {ie : E} {σ : L2.St} {H : Hp} {Q Q' : VK} (h : TAs F GL X.K o ie σ H Q) (q : ∀ v H, Q v H → Q' v H) : TAs F GL X.K o ie σ H Q' := by
  cases o with
  | false => exact tEv_mono h q
  | true => exact tFr_mono h q
/-- a, b = x, y with plain names -/
theorem sP (i j : Nat) {oi oj : Bool} {x y : Str} {px py pt : Pos} {kt k2 pt2} (hN : X.N.Nodup) (ha : PE X a (TAs F GL X.K oi ia)) (hb : PE X b (TAs F GL X.K oj ib)) (hi : X.N[i]? = some x := by rfl) (hj : X.N[j]? = some y := by rfl) (hij : i ≠ j := by decide)
    (hx : X.env.scope.names.lookup x = some .local := by rfl) (hy : X.env.scope.names.lookup y = some .local := by rfl) (hw : swappedStores [.Tuple [.Name x px, .Name y py] kt pt] (.Tuple [a, b] k2 pt2) X.env = pure (some [x, y]) := by rfl)
    (hs : swapsWithSole [.Tuple [.Name x px, .Name y py] kt pt] (.Tuple [a, b] k2 pt2) pos.line X.env = pure false := by rfl) (hc : X.calm = true := by rfl) (h1 : starEach [a, b] X.env = (false, eval a X.env) :: starEach [b] X.env := by rfl) (h2 : starEach [b] X.env = (false, eval b X.env) :: starEach [] X.env := by rfl) :
    PS X (.Assign [.Tuple [.Name x px, .Name y py] kt pt] (.Tuple [a, b] k2 pt2) pos) (TSv F GL wf X.K H₀ ι₀ (.par i j oi oj ia ib)) :=
  qs_par (ps_imp (ps_par hc hN hi hj hij hx hy (pa_cons ha (pa_cons hb pa_nil h2) h1) hw hs) fun D σ H h => par_gets D σ H h fun {Q Q'} hq h => tAs_mono h fun v H h => tAs_mono h fun v H h => hq _ _ h) hij
/-- .. stored out of the tuple -/
theorem sP' (i j : Nat) {oi oj : Bool} {x y : Str} {px py pt : Pos} {kt k2 pt2} (hN : X.N.Nodup) (ha : PE X a (TAs F GL X.K oi ia)) (hb : PE X b (TAs F GL X.K oj ib)) (hi : X.N[i]? = some x := by rfl) (hj : X.N[j]? = some y := by rfl) (hij : i ≠ j := by decide)
    (hx : Loc X.env.scope x := by first | exact .inl rfl | exact .inr rfl) (hy : Loc X.env.scope y := by first | exact .inl rfl | exact .inr rfl) (hfx : X.fn x = true ∨ X.env.scope.names.lookup x = some .local := by first | exact .inl rfl | exact .inr rfl) (hfy : X.fn y = true ∨ X.env.scope.names.lookup y = some .local := by first | exact .inl rfl | exact .inr rfl)
    (hw : swappedStores [.Tuple [.Name x px, .Name y py] kt pt] (.Tuple [a, b] k2 pt2) X.env = pure none := by rfl)
    (hs : swapsWithSole [.Tuple [.Name x px, .Name y py] kt pt] (.Tuple [a, b] k2 pt2) pos.line X.env = pure false := by rfl) (hc : X.calm = true := by rfl) (h1 : starEach [a, b] X.env = (false, eval a X.env) :: starEach [b] X.env := by rfl) (h2 : starEach [b] X.env = (false, eval b X.env) :: starEach [] X.env := by rfl)
    (h3 : (assignEach [.Tuple [.Name x px, .Name y py] kt pt] X.env).map (·.2) = [assign (.Tuple [.Name x px, .Name y py] kt pt) X.env] := by rfl) (h4 : (assignEach [.Name x px, .Name y py] X.env).map (·.2) = assign (.Name x px) X.env :: (assignEach [.Name y py] X.env).map (·.2) := by rfl) (h5 : (assignEach [.Name y py] X.env).map (·.2) = assign (.Name y py) X.env :: (assignEach [] X.env).map (·.2) := by rfl)
    (h6 : (assignEach [.Name x px, .Name y py] X.env).length = 2 := by rfl) (h7 : (assignEach [.Name x px, .Name y py] X.env).findIdx? (·.1) = none := by rfl) :
    PS X (.Assign [.Tuple [.Name x px, .Name y py] kt pt] (.Tuple [a, b] k2 pt2) pos) (TSv F GL wf X.K H₀ ι₀ (.par i j oi oj ia ib)) :=
  qs_par (ps_imp (ps_asg (pe_tup (pa_cons ha (pa_cons hb pa_nil h2) h1)) (pg_tup hc (pgs_cons (pg_name hN hi hx hfx) (pgs_cons (pg_name hN hj hy hfy) pgs_nil h5) h4) h6 h7) hs hw h3) fun D σ H h => by
    refine tAs_mono h fun v H h => tAs_mono h fun w H1 ⟨v', w', e, q⟩ => ?_
    cases e
    exact ⟨show 2 ≤ sizeLine by decide, fun p hp => ⟨p, [v, w], rfl, .inl (.inl upd_same), rfl, v, [w], rfl, w, [], rfl, rfl, q _ fun b o hb => by rw [upd_ne (ne_of_none hb hp)]; exact hb⟩⟩) hij
/-- a, b, c = x, y, z -/
theorem sP3 (i j l : Nat) {oi oj ok : Bool} {x y z : Str} {px py pz pt : Pos} {kt k2 pt2} (hN : X.N.Nodup) (ha : PE X a (TAs F GL X.K oi ia)) (hb : PE X b (TAs F GL X.K oj ib)) (hc3 : PE X c (TAs F GL X.K ok ic)) (hi : X.N[i]? = some x := by rfl) (hj : X.N[j]? = some y := by rfl) (hl : X.N[l]? = some z := by rfl) (hij : i ≠ j := by decide) (hil : i ≠ l := by decide) (hjl : j ≠ l := by decide)
    (hx : X.env.scope.names.lookup x = some .local := by rfl) (hy : X.env.scope.names.lookup y = some .local := by rfl) (hz : X.env.scope.names.lookup z = some .local := by rfl) (hw : swappedStores [.Tuple [.Name x px, .Name y py, .Name z pz] kt pt] (.Tuple [a, b, c] k2 pt2) X.env = pure (some [x, y, z]) := by rfl)
    (hs : swapsWithSole [.Tuple [.Name x px, .Name y py, .Name z pz] kt pt] (.Tuple [a, b, c] k2 pt2) pos.line X.env = pure false := by rfl) (hc : X.calm = true := by rfl) (h1 : starEach [a, b, c] X.env = (false, eval a X.env) :: starEach [b, c] X.env := by rfl) (h2 : starEach [b, c] X.env = (false, eval b X.env) :: starEach [c] X.env := by rfl) (h3 : starEach [c] X.env = (false, eval c X.env) :: starEach [] X.env := by rfl) :
    PS X (.Assign [.Tuple [.Name x px, .Name y py, .Name z pz] kt pt] (.Tuple [a, b, c] k2 pt2) pos) (TSv F GL wf X.K H₀ ι₀ (.par3 i j l oi oj ok ia ib ic)) :=
  qs_par3 (ps_imp (ps_par3 hc hN hi hj hl hij hil hjl hx hy hz (pa_cons ha (pa_cons hb (pa_cons hc3 pa_nil h3) h2) h1) hw hs) fun D σ H h => tAs_mono h fun v H h => tAs_mono h fun w H1 h => tAs_mono h fun u H2 ⟨v', w', u', e, q⟩ => ⟨v', w', u', e, q H2 (Same.refl _)⟩)
theorem sP3' (i j l : Nat) {oi oj ok : Bool} {x y z : Str} {px py pz pt : Pos} {kt k2 pt2} (hN : X.N.Nodup) (ha : PE X a (TAs F GL X.K oi ia)) (hb : PE X b (TAs F GL X.K oj ib)) (hc3 : PE X c (TAs F GL X.K ok ic)) (hi : X.N[i]? = some x := by rfl) (hj : X.N[j]? = some y := by rfl) (hl : X.N[l]? = some z := by rfl)
    (hx : Loc X.env.scope x := by first | exact .inl rfl | exact .inr rfl) (hy : Loc X.env.scope y := by first | exact .inl rfl | exact .inr rfl) (hz : Loc X.env.scope z := by first | exact .inl rfl | exact .inr rfl) (hfx : X.fn x = true ∨ X.env.scope.names.lookup x = some .local := by first | exact .inl rfl | exact .inr rfl) (hfy : X.fn y = true ∨ X.env.scope.names.lookup y = some .local := by first | exact .inl rfl | exact .inr rfl) (hfz : X.fn z = true ∨ X.env.scope.names.lookup z = some .local := by first | exact .inl rfl | exact .inr rfl)
    (hw : swappedStores [.Tuple [.Name x px, .Name y py, .Name z pz] kt pt] (.Tuple [a, b, c] k2 pt2) X.env = pure none := by rfl)
    (hs : swapsWithSole [.Tuple [.Name x px, .Name y py, .Name z pz] kt pt] (.Tuple [a, b, c] k2 pt2) pos.line X.env = pure false := by rfl) (hc : X.calm = true := by rfl) (h1 : starEach [a, b, c] X.env = (false, eval a X.env) :: starEach [b, c] X.env := by rfl) (h2 : starEach [b, c] X.env = (false, eval b X.env) :: starEach [c] X.env := by rfl) (h3 : starEach [c] X.env = (false, eval c X.env) :: starEach [] X.env := by rfl)
    (h4 : (assignEach [.Tuple [.Name x px, .Name y py, .Name z pz] kt pt] X.env).map (·.2) = [assign (.Tuple [.Name x px, .Name y py, .Name z pz] kt pt) X.env] := by rfl) (h5 : (assignEach [.Name x px, .Name y py, .Name z pz] X.env).map (·.2) = assign (.Name x px) X.env :: (assignEach [.Name y py, .Name z pz] X.env).map (·.2) := by rfl) (h6 : (assignEach [.Name y py, .Name z pz] X.env).map (·.2) = assign (.Name y py) X.env :: (assignEach [.Name z pz] X.env).map (·.2) := by rfl) (h7 : (assignEach [.Name z pz] X.env).map (·.2) = assign (.Name z pz) X.env :: (assignEach [] X.env).map (·.2) := by rfl)
    (h8 : (assignEach [.Name x px, .Name y py, .Name z pz] X.env).length = 3 := by rfl) (h9 : (assignEach [.Name x px, .Name y py, .Name z pz] X.env).findIdx? (·.1) = none := by rfl) :
    PS X (.Assign [.Tuple [.Name x px, .Name y py, .Name z pz] kt pt] (.Tuple [a, b, c] k2 pt2) pos) (TSv F GL wf X.K H₀ ι₀ (.par3 i j l oi oj ok ia ib ic)) :=
  qs_par3 (ps_imp (ps_asg (pe_tup (pa_cons ha (pa_cons hb (pa_cons hc3 pa_nil h3) h2) h1)) (pg_tup hc (pgs_cons (pg_name hN hi hx hfx) (pgs_cons (pg_name hN hj hy hfy) (pgs_cons (pg_name hN hl hz hfz) pgs_nil h7) h6) h5) h8 h9) hs hw h4) fun D σ H h => by
    refine tAs_mono h fun v H h => tAs_mono h fun w H1 h => tAs_mono h fun u H2 ⟨v', w', u', e, q⟩ => ?_
    cases e
    exact ⟨show 3 ≤ sizeLine by decide, fun p hp => ⟨p, [v, w, u], rfl, .inl (.inl upd_same), rfl, v, [w, u], rfl, w, [u], rfl, u, [], rfl, rfl, q _ fun b o hb => by rw [upd_ne (ne_of_none hb hp)]; exact hb⟩⟩)
theorem sU (i : Nat) {x : Str} {op : Operator} {pos' : Pos} (hN : X.N.Nodup) (he : PE X a (TEv F GL X.K ia)) (hi : X.N[i]? = some x := by rfl) (hx : Loc X.env.scope x := by first | exact .inl rfl | exact .inr rfl) (hf : X.fn x = true ∨ X.env.scope.names.lookup x = some .local := by first | exact .inl rfl | exact .inr rfl) : PS X (.AugAssign (.Name x pos') op a pos) (TSv F GL wf X.K H₀ ι₀ (.aug i op ia)) := qs_aug hN hi hx he hf
theorem sA (i : Nat) {x : Str} {p apos cpos : Pos} (he : PE X a (TEv F GL X.K ia)) (hN : X.N[i]? = some x := by rfl) (hv : Vis X.env.scope x := by first | exact Or.inl rfl | exact Or.inr (Or.inl rfl) | exact Or.inr (Or.inr rfl)) (hd : (x == ("__debug__" : Str)) = false := by decide) (hcd : (x == ("__classdict__" : Str)) = false := by decide) (hline : (apos.endLine == cpos.line) = true := by rfl)
    (hs : starEach [a] X.env = (false, eval a X.env) :: starEach [] X.env := by rfl) (hfew : ((backTo cpos (starEach [a] X.env)).all (fun x => !x.1) && (backToKw cpos (keywordEach [] X.env)).all (fun x => x.1.isSome) && decide ([a].length + ([] : List Keyword).length + (if ([] : List Keyword).isEmpty then 0 else 1) < 30)) = true := by rfl) :
    PS X (.Expr (.Call (.Attribute (.Name x p) "append" apos) [a] [] cpos) pos) (TSv F GL wf X.K H₀ ι₀ (.app i ia)) := qs_app hN hv hd hcd he hline hs hfew
theorem sX (i : Nat) {x : Str} {p apos cpos : Pos} (he : PE X a (TFr F GL X.K ia)) (hN : X.N[i]? = some x := by rfl) (hv : Vis X.env.scope x := by first | exact Or.inl rfl | exact Or.inr (Or.inl rfl) | exact Or.inr (Or.inr rfl)) (hd : (x == ("__debug__" : Str)) = false := by decide) (hcd : (x == ("__classdict__" : Str)) = false := by decide) (hline : (apos.endLine == cpos.line) = true := by rfl)
    (hs : starEach [a] X.env = (false, eval a X.env) :: starEach [] X.env := by rfl) (hfew : ((backTo cpos (starEach [a] X.env)).all (fun x => !x.1) && (backToKw cpos (keywordEach [] X.env)).all (fun x => x.1.isSome) && decide ([a].length + ([] : List Keyword).length + (if ([] : List Keyword).isEmpty then 0 else 1) < 30)) = true := by rfl) :
    PS X (.Expr (.Call (.Attribute (.Name x p) "extend" apos) [a] [] cpos) pos) (TSv F GL wf X.K H₀ ι₀ (.ext i ia)) := qs_ext hN hv hd hcd he hline hs hfew
theorem sI (i : Nat) {x : Str} {p p2 : Pos} (hk : PE X b (TEv F GL X.K ib)) (he : PE X a (TEv F GL X.K ia)) (hN : X.N[i]? = some x := by rfl) (hv : Vis X.env.scope x := by first | exact Or.inl rfl | exact Or.inr (Or.inl rfl) | exact Or.inr (Or.inr rfl)) (hd : (x == ("__debug__" : Str)) = false := by decide) (hcd : (x == ("__classdict__" : Str)) = false := by decide) (hs : swapsWithSole [.Subscript (.Name x p) b p2] a pos.line X.env = pure false := by rfl)
    (hw : swappedStores [.Subscript (.Name x p) b p2] a X.env = pure none := by rfl) (hasg : ∀ v, assign (.Subscript (.Name x p) b p2) X.env v = (do let ov ← holding [v] (eval (.Name x p) X.env); let iv ← holding [v, ov] (eval b X.env); standAt p2; holding [v, ov, iv] (setItem ov iv v); release [v, ov, iv] []) := by intro _; rfl) :
    PS X (.Assign [.Subscript (.Name x p) b p2] a pos) (TSv F GL wf X.K H₀ ι₀ (.sit i ib ia)) := qs_sit hN hv hd hcd hk he hs hw hasg
theorem sU2 (i : Nat) {x : Str} {p p2 : Pos} (hk : PE X b (TEv F GL X.K ib)) (he : PE X a (TEv F GL X.K ia)) (hN : X.N[i]? = some x := by rfl) (hv : Vis X.env.scope x := by first | exact Or.inl rfl | exact Or.inr (Or.inl rfl) | exact Or.inr (Or.inr rfl)) (hd : (x == ("__debug__" : Str)) = false := by decide) (hcd : (x == ("__classdict__" : Str)) = false := by decide)
    (hst : ∀ ov iv new, augStore b ov iv new = (do holding [new, ov, iv] (setItem ov iv new); release [new, ov, iv] []; pure .next) := by intro _ _ _; rfl) : PS X (.AugAssign (.Subscript (.Name x p) b p2) .Add a pos) (TSv F GL wf X.K H₀ ι₀ (.aug2 i ib .Add ia)) := qs_aug2 hN hv hd hcd hk he hst rfl
theorem sE (he : PE X a (TEv F GL X.K ia)) (hs : swapsWith a none pos.line X.env = pure false := by rfl) : PS X (.Expr a pos) (TSv F GL wf X.K H₀ ι₀ (.exp ia)) := qs_exp he hs
theorem sF {tg it : Expr} {g : G} {ii : E} {sb : S} {bd : List Stmt} (hi : PI X tg it (TIv F GL X.K ii)) (hg : PG X tg (TGv X.K g)) (hb : ∀ H₀, PSs X bd (TSv F GL wf X.K H₀ ι₀ sb)) (hp : PassesOwn (model X.prog X.w) X.A X.env X.xe := by exact PassesOwn.never) (hcalm : X.calm = true := by rfl) (hs : ∀ x, foldedSetIterable it X.env x = pure x := by intro _; rfl) :
    PS X (.For tg it bd [] pos) (TSv F GL wf X.K H₀ ι₀ (.forr g ii sb)) := qs_for hp hcalm hi hg hb hs
theorem sW {sb : S} {bd : List Stmt} (hc : PT X c (TTv F GL X.K ic)) (hb : PSs X bd (TSv F GL wf X.K H₀ ι₀ sb)) (hp : PassesOwn (model X.prog X.w) X.A X.env X.xe := by exact PassesOwn.never) : PS X (.While c bd [] pos) (TSv F GL wf X.K H₀ ι₀ (.whl ic sb)) := qs_while hp hc hb
theorem sD (i : Nat) {x q : Str} {p p2 p3 : Pos} {j : Nat} (hr : RoomG k X.A) (he : PE X a (TEv F GL X.K ia)) (hN : X.N[i]? = some x := by rfl) (hv : Vis X.env.scope x := by first | exact Or.inl rfl | exact Or.inr (Or.inl rfl) | exact Or.inr (Or.inr rfl)) (hd : (x == ("__debug__" : Str)) = false := by decide) (hcd : (x == ("__classdict__" : Str)) = false := by decide)
    (hs : swapsWith a (some (.Subscript (.Name x p) (.Constant (.str q) j p2) p3)) pos.line X.env = pure false := by rfl) : PS X (.Assign [.Subscript (.Name x p) (.Constant (.str q) j p2) p3] a pos) (TSv F GL wf X.K H₀ ι₀ (.dput i q ia)) := qs_dput (hu1 hr) hN hv hd hcd he hs
end
/-! ### a def -/
section
variable {P : Program} {w : World} {K : PySem.W.Frag} {mg : Str → Option Value} {base : Heap} {GL : Str → Option PyData} {wf n : Nat} {tbl : List (Str × Fn)}
theorem start_rel {ι : List Addr} {H : Hp} : ∀ {vs : List V} {rs : List Vl}, AtVs K ι H vs rs → ∀ (m : Nat), RelEn K ι (rs.map (fun v => some (.val v)) ++ List.replicate m none) (vs.map some ++ List.replicate m none) H
  | _, _, .nil, m => ⟨by simp, fun i s h => by
      exfalso
      unfold getS at h
      rw [List.map_nil, List.nil_append, List.getElem?_replicate] at h
      split at h <;> cases h⟩
  | _, _, .cons (v := v) (r := r) a b, m => by
      have ih := start_rel b m
      refine ⟨by have := ih.1; simpa using this, fun i s h => ?_⟩
      cases i with
      | zero => 
        have : s = .val r := by
          unfold getS at h
          simpa using h.symm
        subst this
        exact ⟨v, rfl, a⟩
      | succ i => exact ih.2 i s h
theorem fn_ok {x : Str} {st : Stmt} {f : Addr} {fd : FuncData} {N ps : List Str} {fn : Fn} (Fu : L2.Fun K x x st f fd) (S : FnScope N ps (defScope st)) (ht : tbl.lookup x = some fn) (hnp : fn.np = ps.length) (hns : fn.ns = N.length)
    (hbody : ∀ (cdv : Value) (A : Around) (outer : List Env) (s : Shared) (H : Hp) (E : XK) (H₀ : Bs) (ι₀ : List Addr), RoomG n (A.deeper (envOfC x (defScope st) s.heap.objs.size f cdv)) →
      PSs (cxOf CX0 P w K mg base N x (defScope st) f cdv A outer s H E).nox (defBody st) (TSv (runF tbl GL wf n) GL wf K H₀ ι₀ fn.body)) : FnG P w K mg base CX0 (n + 1) f fd ps (FnSp K (runF tbl GL wf (n + 1) x) ps.length) := by
  refine okG Fu S (fun vs H Q E h => ?_) (fun cdv A outer s H vs Q E hr h => ?_)
  · obtain ⟨ι, ds, st, r, st', h1, h2, h3, h4⟩ := h
    exact h3
  · obtain ⟨ι, ds, st0, r, st', h1, h2, h3, h4, q⟩ := h
    refine ⟨_, (hbody cdv A outer s H E ⟨H, []⟩ ι hr).nox, ?_⟩
    simp only [runF, ht] at h4
    split at h4
    · rename_i hl
      obtain ⟨o, e1, e2⟩ := Res.bind_ok h4
      have hrel : RelEn K ι (begin_ fn ds) (L2.start N vs) H := by
        have := start_rel h2 (N.length - vs.length)
        unfold begin_ L2.start
        rw [hns, ← h2.length]
        exact this
      refine ⟨ι, _, st0, o, ⟨List.prefix_refl _, hrel, h1, Ext.refl H, fun B hB => (nomatch hB), fun i l hi => ?_⟩, e1, ?_⟩
      · exfalso
        unfold getS begin_ at hi
        by_cases hlt : i < (ds.map fun v => (some (Slot.val v) : Option Slot)).length
        · rw [List.getElem?_append_left hlt, List.getElem?_map] at hi
          cases hd : ds[i]? with
          | none => rw [hd] at hi; cases hi
          | some z => rw [hd] at hi; cases hi
        · rw [List.getElem?_append_right (by omega), List.getElem?_replicate] at hi
          split at hi <;> cases hi
      · cases o with
        | next en st1 => cases e2; exact fun ι1 σ1 H1 B1 => q ι1 .non H1 B1.pre B1.rst At.non B1.ext
        | ret v st1 => cases e2; exact fun ι1 v1 H1 p1 S1 a1 x1 => q ι1 v1 H1 p1 S1 a1 x1
        | brk en st1 => cases e2
    · cases h4
/-- nothing is promised at level 0 -/
theorem fn_zero {f : Addr} {fd : FuncData} {ps : List Str} {x : Str} {k : Nat} : FnG P w K mg base CX0 k f fd ps (FnSp K (runF tbl GL wf 0 x) ps.length) :=
  ⟨fun vs H Q E ⟨ι, ds, st, r, st', h1, h2, h3, h4⟩ => h3, fun A outer s H args us vs Q E _ _ _ _ ⟨ι, ds, st, r, st', h1, h2, h3, h4, _⟩ => by simp only [runF] at h4; cases h4⟩
/-- what stands of a def -/
structure Dn (K : PySem.W.Frag) (mg : Str → Option Value) (x : Str) (st : Stmt) (ps : List Str) (f : Addr) (fd : FuncData) : Prop where
  fn : L2.Fun K x x st f fd
  mgf : mg x = some (.ref f)
  bd : Binds K fd ps []
theorem Dn.at_ {x : Str} {st : Stmt} {f : Addr} {fd : FuncData} {N ps : List Str} {fn : Fn} (D : Dn K mg x st ps f fd) (S : FnScope N ps (defScope st)) (ht : tbl.lookup x = some fn) (hnp : fn.np = ps.length) (hns : fn.ns = N.length)
    (hbody : ∀ (cdv : Value) (A : Around) (outer : List Env) (s : Shared) (H : Hp) (E : XK) (H₀ : Bs) (ι₀ : List Addr), RoomG n (A.deeper (envOfC x (defScope st) s.heap.objs.size f cdv)) →
      PSs (cxOf CX0 P w K mg base N x (defScope st) f cdv A outer s H E).nox (defBody st) (TSv (runF tbl GL wf n) GL wf K H₀ ι₀ fn.body)) : FnAt P w K mg base (n + 1) (runF tbl GL wf (n + 1)) x fn.np :=
  ⟨f, fd, ps, fn_ok D.fn S ht hnp hns hbody, D.mgf, D.fn.kp, D.bd, hnp.symm⟩
theorem Dn.zero {x : Str} {st : Stmt} {f : Addr} {fd : FuncData} {ps : List Str} {fn : Fn} (D : Dn K mg x st ps f fd) (hnp : fn.np = ps.length) : FnAt P w K mg base 0 (runF tbl GL wf 0) x fn.np :=
  ⟨f, fd, ps, fn_zero, D.mgf, D.fn.kp, D.bd, hnp.symm⟩
/-- over a table, one by one -/
def AllFn (Q : Str → Fn → Prop) : List (Str × Fn) → Prop
  | [] => True
  | p :: r => Q p.1 p.2 ∧ AllFn Q r
theorem AllFn.look {Q : Str → Fn → Prop} : ∀ {t : List (Str × Fn)}, AllFn Q t → ∀ f fn, t.lookup f = some fn → Q f fn
  | [], _, f, fn, h => by cases h
  | p :: r, ⟨a, b⟩, f, fn, h => by
    rw [List.lookup_cons] at h
    split at h
    · rename_i e
      cases h
      rw [beq_iff_eq.mp e]
      exact a
    · exact AllFn.look b f fn h
/-- a statement run over a heap where the given list is frozen -/
theorem pss_frz {X : Cx} {sts : List Stmt} {t : TS} (h : PSs X sts t) : PSs X sts (fun D σ H => ∃ a xs, H a = some (.lst xs) ∧ ∀ o, t D σ (upd H a (.frz o (.lst xs)))) := by
  refine ⟨fun pins s σ H D I ⟨a, xs, e, q⟩ => ?_⟩
  obtain ⟨o, I2⟩ := inv_frz I e
  exact h.run pins s σ _ D I2 (q o)
/-- what the law's caller hands over -/
def spL (K : PySem.W.Frag) : Sp := fun vs H Q _ => ∃ (a : Addr) (ns : List Int), vs = [.ref a] ∧ SqL K H a (ns.map V.int) ∧ ns.length ≤ 63 ∧ ∀ H', Q (.bl true) H'
theorem law_ok {x : Str} {st : Stmt} {f : Addr} {fd : FuncData} {N : List Str} {sc : Str} {fn : Fn} (Fu : L2.Fun K x x st f fd) (S : FnScope N [sc] (defScope st)) (ht : tbl.lookup x = some fn) (hnp : fn.np = 1) (hns : fn.ns = N.length)
    (hbody : ∀ (cdv : Value) (A : Around) (outer : List Env) (s : Shared) (H : Hp) (E : XK) (H₀ : Bs) (ι₀ : List Addr), RoomG n (A.deeper (envOfC x (defScope st) s.heap.objs.size f cdv)) →
      PSs (cxOf CX0 P w K mg base N x (defScope st) f cdv A outer s H E).nox (defBody st) (TSv (runF tbl GL wf n) GL wf K H₀ ι₀ fn.body))
    (law : ∀ ns : List Int, ns.length ≤ 63 → ∃ st', runF tbl GL wf (n + 1) x [.dat (.list (ns.map .int))] [] = .ok (.dat (.bool true), st')) : FnG P w K mg base CX0 (n + 1) f fd [sc] (spL K) := by
  refine okG Fu S (fun vs H Q E h => ?_) (fun cdv A outer s H vs Q E hr h => ?_)
  · obtain ⟨a, ns, rfl, _⟩ := h
    rfl
  · obtain ⟨a, ns, rfl, hS, hl, q⟩ := h
    obtain ⟨st', h4⟩ := law ns hl
    simp only [runF, ht] at h4
    split at h4
    · rename_i hl2
      obtain ⟨o, e1, e2⟩ := Res.bind_ok h4
      have fin : ∀ H1 : Hp, FzL K H1 a (ns.map V.int) → TSv (runF tbl GL wf n) GL wf K ⟨H1, []⟩ [] fn.body { nx := fun _ H' => Q .non H', rt := Q } (L2.start N [.ref a]) H1 := fun H1 hz => by
        have h2 : AtVs K [] H1 [.ref a] [.dat (.list (ns.map .int))] := .cons (At.lst hz (at_ints ns)) .nil
        have hrel : RelEn K [] (begin_ fn [.dat (.list (ns.map .int))]) (L2.start N [.ref a]) H1 := by
          have := start_rel h2 (N.length - 1)
          unfold begin_ L2.start
          rw [hns]
          exact this
        refine ⟨[], _, [], o, ⟨List.prefix_refl _, hrel, ⟨rfl, List.nodup_nil, fun k a kvs h => (nomatch h)⟩, Ext.refl H1, fun B hB => (nomatch hB), fun i l hi => ?_⟩, e1, ?_⟩
        · exfalso
          unfold getS begin_ at hi
          cases i with
          | zero => cases hi
          | succ i =>
            rw [List.map_cons, List.map_nil, List.cons_append, List.getElem?_cons_succ, List.nil_append, List.getElem?_replicate] at hi
            split at hi <;> cases hi
        · cases o with
          | next en st1 => cases e2
          | ret v st1 =>
            cases e2
            intro ι1 v1 H2 p1 S1 a1 x1
            cases (a1 : At K H2 v1 (.bool true))
            exact q H2
          | brk en st1 => cases e2
      rcases hS with (h1 | ⟨o1, h1⟩) | h1
      · exact ⟨_, pss_frz (pss_all fun H₀ => (hbody cdv A outer s H E H₀ [] hr).nox), a, _, h1, fun o1 => ⟨_, fin _ (.inl ⟨o1, upd_same⟩)⟩⟩
      · exact ⟨_, (hbody cdv A outer s H E ⟨H, []⟩ [] hr).nox, fin H (.inl ⟨o1, h1⟩)⟩
      · exact ⟨_, (hbody cdv A outer s H E ⟨H, []⟩ [] hr).nox, fin H (.inr (.inr h1))⟩
    · cases h4
end
end Rv
namespace Rv
open PySem PySem.Spec PyProof.Rows L2
theorem asE {X : Cx} {F : Str → List Vl → Sto → Res (Vl × Sto)} {GL : Str → Option PyData} {a : Expr} {ia : E} (h : PE X a (TEv F GL X.K ia)) : PE X a (TAs F GL X.K false ia) := h
theorem asF {X : Cx} {F : Str → List Vl → Sto → Res (Vl × Sto)} {GL : Str → Option PyData} {a : Expr} {ia : E} (h : PE X a (TFr F GL X.K ia)) : PE X a (TAs F GL X.K true ia) := h
end Rv

set_option Elab.async false
set_option linter.all false
set_option maxRecDepth 100000
set_option maxHeartbeats 1000000
/-! Rv, part H: the law's call by its caller, where nothing is being shown. -/
namespace Rv
open PySem PySem.Spec PyProof.Rows L2
section
variable {P : Program} {w : World} {K : PySem.W.Frag} {mg mb : Str → Option Value} {cx : CXT} {k : Nat} {fa a : Addr} {fd : FuncData} {x : Str} {sp : Sp} {s1 : Shared} {its : List Value} {ns : List Int}
/-- over an abstract heap that tracks the script alone, or nothing -/
theorem law_on (H : Hp) (hH : ∀ b, H b = none ∨ (b = a ∧ ∃ o ys, H b = some (.frz o (.lst ys)))) (hok : HOk P w H s1.heap) (away : H a ≠ none → K.lookup a = none) (kI : K.In s1.heap) (n1 : s1.heap.Ns mainGlobals mg) (n2 : s1.heap.Ns builtinsNs mb) (n3 : ∀ y : Str, y ≠ "__name__" → mb y = bootBuiltins y) (n4 : s1.heap.NoLimit) (ng : s1.gens = #[])
    (ia : s1.heap.get? a = some { cls := .type "list", data := .seq its.toArray }) (hr : RoomG k callerA) (F : ∀ B : Heap, K.In B → B.Ns mainGlobals mg → FnG P w K mg B cx k fa fd [x] sp) (bt : ∀ (s : Shared) (u : Value), BindsTo s fd ⟨[u], []⟩ [(x, u)])
    (hs : sp [.ref a] H (fun v _ => v = .bl true) fun _ _ _ => False) (nx : ∀ e s', cx [] H s1 (fun _ _ _ => False) e s' → False) :
    codeAny (model P w) callerA (.call (.ref fa) ⟨[.ref a], []⟩) (fun r s' => r = .ok (.ret (.bool true)) ∧ OldK s1.heap s'.heap ∧ s'.os = s1.os ∧ AllBare s'.gens) s1 := by
  have off : ∀ {b : Addr} {o : Obj} {es : Array DictEntry} {ep : Nat}, s1.heap.get? b = some o → o.data = .dict es ep → H b = none := by
    intro b o es ep e d
    rcases hH b with z | ⟨rfl, _⟩
    · exact z
    · rw [ia] at e
      cases e
      cases d
  have sub : ∀ {b : Addr} {m : Str → Option Value}, s1.heap.Ns b m → (hidT s1.heap H).Ns b m := by
    rintro b m ⟨o, es, ep, e, d, r⟩
    exact ⟨o, es, ep, hidT_get e (off e d), d, r⟩
  have kB : K.In (hidT s1.heap H) := by
    intro b o e
    refine hidT_get (kI b o e) ?_
    rcases hH b with z | ⟨rfl, o', ys, z⟩
    · exact z
    · rw [away (by rw [z]; exact fun q => nomatch q)] at e
      cases e
  have lim : (hidT s1.heap H).NoLimit := by
    obtain ⟨mc, h1, h2⟩ := n4
    exact ⟨mc, sub h1, h2⟩
  have e0 : Env0 P w K mg (hidT s1.heap H) callerA [] s1 H :=
    { frames := rfl, mod := ⟨kB, sub n1, ⟨mb, sub n2, n3⟩, lim⟩, bs := fun b o e => of_hidT e, bsz := Nat.le_of_eq (hidT_size _ _), funs := trivial, frf := fun b hb => (nomatch hb), hok := hok, bare := .of_eq ng }
  refine codeAny_mono ((F _ kB (sub n1)).goes callerA [] s1 H ⟨[.ref a], []⟩ [.ref a] [.ref a] _ _ hr e0 (bt s1 (.ref a)) (.cons rfl .nil) hs) ?_
  intro rr s2 h
  rcases rr with e | fl
  · exact (nx e s2 h).elim
  cases fl with
  | next => cases h
  | brk => cases h
  | cont => cases h
  | ret u =>
    obtain ⟨v, H2, os, bare, un, hok2, r2, q⟩ := h
    have q : v = .bl true := q
    subst q
    obtain rfl : u = Value.bool true := r2
    refine ⟨rfl, OldK.of_keep ?_, os, bare⟩
    intro b o e
    rcases hH b with z | ⟨_, ob, ys, z⟩
    · exact un.keep b o e z (fun y => (nomatch y)) (fun y => (nomatch y))
    · obtain ⟨e1, _⟩ := hok b _ z
      obtain ⟨e2, _⟩ := hok2 b _ (un.frzs b ob _ z)
      rw [e] at e1
      cases e1
      exact e2
theorem law_callG (kI : K.In s1.heap) (n1 : s1.heap.Ns mainGlobals mg) (n2 : s1.heap.Ns builtinsNs mb) (n3 : ∀ y : Str, y ≠ "__name__" → mb y = bootBuiltins y) (n4 : s1.heap.NoLimit) (ng : s1.gens = #[])
    (ia : s1.heap.get? a = some { cls := .type "list", data := .seq its.toArray }) (ii : IntsAre its ns) (il : ns.length ≤ sizeLine) (hr : RoomG k callerA) (F : ∀ B : Heap, K.In B → B.Ns mainGlobals mg → FnG P w K mg B cx k fa fd [x] sp) (bt : ∀ (s : Shared) (u : Value), BindsTo s fd ⟨[u], []⟩ [(x, u)])
    (hs : ∀ H : Hp, SqL K H a (ns.map V.int) → sp [.ref a] H (fun v _ => v = .bl true) fun _ _ _ => False) (nx : ∀ H e s', cx [] H s1 (fun _ _ _ => False) e s' → False) :
    codeAny (model P w) callerA (.call (.ref fa) ⟨[.ref a], []⟩) (fun r s' => r = .ok (.ret (.bool true)) ∧ OldK s1.heap s'.heap ∧ s'.os = s1.os ∧ AllBare s'.gens) s1 := by
  have rl := vals_ints ii
  have li := ii.length
  cases hk : K.lookup a with
  | some o =>
    have e := kI a o hk
    rw [ia] at e
    cases e
    have sq : SqL K (fun _ => none) a (ns.map V.int) := .inr ⟨_, its.toArray, _, hk, rfl, rfl, rfl, by rw [List.size_toArray, li]; exact il, by simpa using rl⟩
    exact law_on (fun _ => none) (fun b => Or.inl rfl) (fun b u z => nomatch z) (fun z => (z rfl).elim) kI n1 n2 n3 n4 ng ia hr F bt (hs _ sq) (nx _)
  | none =>
    let ob : Obj := { cls := .type "list", data := .seq its.toArray }
    let H : Hp := fun b => if b = a then some (.frz ob (.lst (ns.map V.int))) else none
    have ha : H a = some (.frz ob (.lst (ns.map V.int))) := if_pos rfl
    have hn : ∀ b, b ≠ a → H b = none := fun b z => if_neg z
    refine law_on H (fun b => ?_) (fun b u z => ?_) (fun _ => hk) kI n1 n2 n3 n4 ng ia hr F bt (hs H (.inl (.inr ⟨ob, ha⟩))) (nx H)
    · by_cases z : b = a
      · exact Or.inr ⟨z, ob, _, by rw [z]; exact ha⟩
      · exact Or.inl (hn b z)
    · by_cases y : b = a
      · subst y
        rw [ha] at z
        cases z
        exact ⟨ia, by rw [List.length_map]; exact il, its, _, rl, ia⟩
      · rw [hn b y] at z
        cases z
end
theorem walk_G {l : PySem.W.OpenLaw} {n k : Nat} {q : Program} {loose : List Str} {XP : (Str → Option Value) → Heap → Prop} {YP : World → Heap → Prop} {d : DefRec} {K : Params → PySem.W.Frag} {cx : World → CXT} {sp : World → Sp} {x : Str}
    (hn : l.most = some n) (hz : n ≤ sizeLine) (nd : d.params.defaults = []) (hr : RoomG k callerA) (hY : ∀ (w : World) (h : Heap), YP w h → (K w.params).In h)
    (F : ∀ (w : World) (mg : Str → Option Value) (fa : Addr) (h : Heap), (K w.params).In h → h.Ns mainGlobals mg → mg d.name = some (.ref fa) →
      ∃ fd : FuncData, (∀ (s : Shared) (u : Value), BindsTo s fd ⟨[u], []⟩ [(x, u)]) ∧ ∀ B : Heap, (K w.params).In B → B.Ns mainGlobals mg → FnG l.prog w (K w.params) mg B (cx w) k fa fd [x] (sp w))
    (hs : ∀ (w : World) (H : Hp) (a : Addr) (ns : List Int), ns.length ≤ n → SqL (K w.params) H a (ns.map V.int) → sp w [.ref a] H (fun v _ => v = .bl true) fun _ _ _ => False)
    (nx : ∀ (w : World) (H : Hp) (s : Shared) (e : Value) (s' : Shared), cx w [] H s (fun _ _ _ => False) e s' → False) : PySem.W.WalkO q loose XP YP l.row.toRowW d [] (fun f vs => PySem.call f vs) := by
  refine Att.attach_call hn nd ?_
  intro w s0 s1 mg mb fa o pm cd doc a its ns G Y ho hd hcd hm ia ii il ng
  obtain ⟨fd, bt, hF⟩ := F w mg fa _ (hY w _ Y) G.T.g hm
  exact law_callG (hY w _ Y) G.T.g G.T.b G.T.builtins G.T.nolimit ng ia ii (Nat.le_trans il hz) hr hF bt (fun H z => hs w H a ns il z) (fun H e s' => nx w H s1 e s')
end Rv

set_option Elab.async false
set_option linter.all false
set_option maxRecDepth 100000
set_option maxHeartbeats 4000000
/-! the walk of stairpay_k03_whole_rows, printed by walk.py -/
namespace Rv
open PySem PySem.Spec PyProof.Rows L2
def topS (i : Nat) : Stmt := PySem.Challenge.pw_stairpay_k03_whole_rows.main.body.getD i (.Pass ⟨0, 0, 0, 0⟩)
def bts : List Str := ["all", "bool", "divmod", "enumerate", "int", "isinstance", "len", "list", "min", "range", "repr", "str", "sum", "tuple", "zip"]
section
variable {P : Program} {w : World} {K : PySem.W.Frag} {mg : Str → Option Value} {base : Heap} {wf n : Nat}
abbrev st_is_whole : Stmt := topS 14
theorem sc_is_whole : FnScope ["thing", "least", "most"] ["thing", "least", "most"] (defScope st_is_whole) := ⟨rfl, rfl, rfl, by decide +kernel, rfl, by decide +kernel, by decide +kernel⟩
theorem bd_is_whole (Fs : FnsOk P w K mg base n (runF tbl glb wf n) tbl) (Bt : BtOk mg bts) (Gd : GdOk K mg glb) (f : Addr) (cdv : Value) (A : Around) (outer : List Env) (s : Shared) (H : Hp) (E : XK) (H₀ : Bs) (ι₀ : List Addr) (hr : RoomG n (A.deeper (envOfC "is_whole" (defScope st_is_whole) s.heap.objs.size f cdv))) :
    PSs (cxOf CX0 P w K mg base ["thing", "least", "most"] "is_whole" (defScope st_is_whole) f cdv A outer s H E).nox (defBody st_is_whole) (TSv (runF tbl glb wf n) glb wf K H₀ ι₀ ir_is_whole) :=
  have nd := sc_is_whole.nd
  (qs_seq (qs_ret (qe_and (qa_cons (xs Bt (xv 0)) (qa_cons (qe_nt (xs Bt (xv 0))) (qa_one (xh hr (xv 1) (xv 0) (xv 2)))))))
  qs_nil)
abbrev st_is_word : Stmt := topS 15
theorem sc_is_word : FnScope ["thing", "sign"] ["thing"] (defScope st_is_word) := ⟨rfl, rfl, rfl, by decide +kernel, rfl, by decide +kernel, by decide +kernel⟩
theorem bd_is_word (Fs : FnsOk P w K mg base n (runF tbl glb wf n) tbl) (Bt : BtOk mg bts) (Gd : GdOk K mg glb) (f : Addr) (cdv : Value) (A : Around) (outer : List Env) (s : Shared) (H : Hp) (E : XK) (H₀ : Bs) (ι₀ : List Addr) (hr : RoomG n (A.deeper (envOfC "is_word" (defScope st_is_word) s.heap.objs.size f cdv))) :
    PSs (cxOf CX0 P w K mg base ["thing", "sign"] "is_word" (defScope st_is_word) f cdv A outer s H E).nox (defBody st_is_word) (TSv (runF tbl glb wf n) glb wf K H₀ ι₀ ir_is_word) :=
  have nd := sc_is_word.nd
  (qs_seq (qs_ret (qe_and (qa_cons (xs Bt (xv 0)) (qa_cons (xh hr qe_int (xb Bt bf_len (xr (xv 0) qr_nil)) (xg Gd)) (qa_one (xb Bt (bf_all rfl) (xr (xlv (xlc nd (qi_itr (xv 0)) (fun _ _ _ _ _ => (xn 1 nd)) (fun _ _ _ _ _ => qts_nil) (fun _ _ _ _ _ => (xc hr (xv 1) (xg Gd))))) qr_nil)))))))
  qs_nil)
abbrev st_are_names : Stmt := topS 16
theorem sc_are_names : FnScope ["thing", "one", "other"] ["thing"] (defScope st_are_names) := ⟨rfl, rfl, rfl, by decide +kernel, rfl, by decide +kernel, by decide +kernel⟩
theorem bd_are_names (Fs : FnsOk P w K mg base n (runF tbl glb wf n) tbl) (Bt : BtOk mg bts) (Gd : GdOk K mg glb) (f : Addr) (cdv : Value) (A : Around) (outer : List Env) (s : Shared) (H : Hp) (E : XK) (H₀ : Bs) (ι₀ : List Addr) (hr : RoomG n (A.deeper (envOfC "are_names" (defScope st_are_names) s.heap.objs.size f cdv))) :
    PSs (cxOf CX0 P w K mg base ["thing", "one", "other"] "are_names" (defScope st_are_names) f cdv A outer s H E).nox (defBody st_are_names) (TSv (runF tbl glb wf n) glb wf K H₀ ι₀ ir_are_names) :=
  have nd := sc_are_names.nd
  (qs_seq (qs_if (qt_or (wo_cons (qt_not (xt (xs Bt (xv 0)))) (wo_cons (qt_not (xht hr qe_int (xb Bt bf_len (xr (xv 0) qr_nil)) (xg Gd))) (wo_one (qt_not (xt (xb Bt (bf_all rfl) (xr (xlv (xlc nd (qi_itr (xv 0)) (fun _ _ _ _ _ => (xn 1 nd)) (fun _ _ _ _ _ => qts_nil) (fun _ _ _ _ _ => (xf Fs hr (xl (xv 1) ql_nil))))) qr_nil))))))))
  (qs_seq (qs_ret qe_bl)
  qs_nil)
  qs_nil)
  (qs_seq (qs_ret (xb Bt (bf_all rfl) (xr (xlv (xlc nd (xzp Bt (xv 0) (qe_slc (xv 0) (qo_some qe_int) qo_none)) (fun _ _ _ _ _ => (xgt (xgc (xn 1 nd) (xgc (xn 2 nd) qgs_nil)))) (fun _ _ _ _ _ => qts_nil) (fun _ _ _ _ _ => (xc hr (xv 1) (xv 2))))) qr_nil)))
  qs_nil))
abbrev st_are_figures : Stmt := topS 17
theorem sc_are_figures : FnScope ["many", "thing", "sign"] ["many", "thing"] (defScope st_are_figures) := ⟨rfl, rfl, rfl, by decide +kernel, rfl, by decide +kernel, by decide +kernel⟩
theorem bd_are_figures (Fs : FnsOk P w K mg base n (runF tbl glb wf n) tbl) (Bt : BtOk mg bts) (Gd : GdOk K mg glb) (f : Addr) (cdv : Value) (A : Around) (outer : List Env) (s : Shared) (H : Hp) (E : XK) (H₀ : Bs) (ι₀ : List Addr) (hr : RoomG n (A.deeper (envOfC "are_figures" (defScope st_are_figures) s.heap.objs.size f cdv))) :
    PSs (cxOf CX0 P w K mg base ["many", "thing", "sign"] "are_figures" (defScope st_are_figures) f cdv A outer s H E).nox (defBody st_are_figures) (TSv (runF tbl glb wf n) glb wf K H₀ ι₀ ir_are_figures) :=
  have nd := sc_are_figures.nd
  (qs_seq (qs_if (qt_or (wo_cons (qt_not (xt (xs Bt (xv 1)))) (wo_one (qt_not (xht hr qe_int (xb Bt bf_len (xr (xv 1) qr_nil)) (xg Gd))))))
  (qs_seq (qs_ret qe_bl)
  qs_nil)
  qs_nil)
  (qs_seq (qs_ret (xb Bt (bf_all rfl) (xr (xlv (xlc nd (qi_itr (xv 1)) (fun _ _ _ _ _ => (xn 2 nd)) (fun _ _ _ _ _ => qts_nil) (fun _ _ _ _ _ => (xc hr (xv 2) (qe_slc (xg Gd) qo_none (qo_some (xv 0))))))) qr_nil)))
  qs_nil))
abbrev st_is_run : Stmt := topS 18
theorem sc_is_run : FnScope ["many", "thing", "is_last"] ["many", "thing", "is_last"] (defScope st_is_run) := ⟨rfl, rfl, rfl, by decide +kernel, rfl, by decide +kernel, by decide +kernel⟩
theorem bd_is_run (Fs : FnsOk P w K mg base n (runF tbl glb wf n) tbl) (Bt : BtOk mg bts) (Gd : GdOk K mg glb) (f : Addr) (cdv : Value) (A : Around) (outer : List Env) (s : Shared) (H : Hp) (E : XK) (H₀ : Bs) (ι₀ : List Addr) (hr : RoomG n (A.deeper (envOfC "is_run" (defScope st_is_run) s.heap.objs.size f cdv))) :
    PSs (cxOf CX0 P w K mg base ["many", "thing", "is_last"] "is_run" (defScope st_is_run) f cdv A outer s H E).nox (defBody st_is_run) (TSv (runF tbl glb wf n) glb wf K H₀ ι₀ ir_is_run) :=
  have nd := sc_is_run.nd
  (qs_seq (qs_if (qt_or (wo_cons (qt_not (xt (xs Bt (xv 1)))) (wo_cons (xct hr (xb Bt bf_len (xr (xv 1) qr_nil)) qe_int) (wo_one (qt_not (xt (xf Fs hr (xl (xv 0) (xl (xi (xv 1) qe_int) ql_nil)))))))))
  (qs_seq (qs_ret qe_bl)
  qs_nil)
  qs_nil)
  (qs_seq (qs_ret (qe_ite (xt (xv 2)) (xc hr (xi (xv 1) qe_int) qe_non) (xf Fs hr (xl (xi (xv 1) qe_int) (xl qe_int (xl (xg Gd) ql_nil))))))
  qs_nil))
abbrev st_need_deal : Stmt := topS 19
theorem sc_need_deal : FnScope ["thing", "names", "runs", "number", "run"] ["thing"] (defScope st_need_deal) := ⟨rfl, rfl, rfl, by decide +kernel, rfl, by decide +kernel, by decide +kernel⟩
theorem bd_need_deal (Fs : FnsOk P w K mg base n (runF tbl glb wf n) tbl) (Bt : BtOk mg bts) (Gd : GdOk K mg glb) (f : Addr) (cdv : Value) (A : Around) (outer : List Env) (s : Shared) (H : Hp) (E : XK) (H₀ : Bs) (ι₀ : List Addr) (hr : RoomG n (A.deeper (envOfC "need_deal" (defScope st_need_deal) s.heap.objs.size f cdv))) :
    PSs (cxOf CX0 P w K mg base ["thing", "names", "runs", "number", "run"] "need_deal" (defScope st_need_deal) f cdv A outer s H E).nox (defBody st_need_deal) (TSv (runF tbl glb wf n) glb wf K H₀ ι₀ ir_need_deal) :=
  have nd := sc_need_deal.nd
  (qs_seq (qs_if (qt_or (wo_cons (qt_not (xt (xs Bt (xv 0)))) (wo_one (xct hr (xb Bt bf_len (xr (xv 0) qr_nil)) qe_int))))
  (qs_seq qs_raise
  qs_nil)
  qs_nil)
  (qs_seq (sG (xv 0) (xgt (xgc (xn 1 nd) (xgc (xn 2 nd) qgs_nil))))
  (qs_seq (qs_if (qt_not (xt (xf Fs hr (xl (xv 1) ql_nil))))
  (qs_seq qs_raise
  qs_nil)
  qs_nil)
  (qs_seq (qs_if (qt_or (wo_cons (qt_not (xt (xs Bt (xv 2)))) (wo_one (qt_not (xht hr qe_int (xb Bt bf_len (xr (xv 2) qr_nil)) (xg Gd))))))
  (qs_seq qs_raise
  qs_nil)
  qs_nil)
  (qs_seq (sF (xen Bt (xv 2)) (xgt (xgc (xn 3 nd) (xgc (xn 4 nd) qgs_nil))) (fun _ =>
  (qs_seq (qs_if (qt_not (xt (xf Fs hr (xl (xb Bt bf_len (xr (xv 1) qr_nil)) (xl (xv 4) (xl (xc hr (xv 3) (qe_bin (xb Bt bf_len (xr (xv 2) qr_nil)) qe_int)) ql_nil))))))
  (qs_seq qs_raise
  qs_nil)
  qs_nil)
  qs_nil)))
  (qs_seq (qs_ret (xv 0))
  qs_nil))))))
abbrev st_need_number : Stmt := topS 20
theorem sc_need_number : FnScope ["thing"] ["thing"] (defScope st_need_number) := ⟨rfl, rfl, rfl, by decide +kernel, rfl, by decide +kernel, by decide +kernel⟩
theorem bd_need_number (Fs : FnsOk P w K mg base n (runF tbl glb wf n) tbl) (Bt : BtOk mg bts) (Gd : GdOk K mg glb) (f : Addr) (cdv : Value) (A : Around) (outer : List Env) (s : Shared) (H : Hp) (E : XK) (H₀ : Bs) (ι₀ : List Addr) (hr : RoomG n (A.deeper (envOfC "need_number" (defScope st_need_number) s.heap.objs.size f cdv))) :
    PSs (cxOf CX0 P w K mg base ["thing"] "need_number" (defScope st_need_number) f cdv A outer s H E).nox (defBody st_need_number) (TSv (runF tbl glb wf n) glb wf K H₀ ι₀ ir_need_number) :=
  have nd := sc_need_number.nd
  (qs_seq (qs_if (qt_not (xt (xf Fs hr (xl (xv 0) (xl qe_int (xl (xg Gd) ql_nil))))))
  (qs_seq qs_raise
  qs_nil)
  qs_nil)
  (qs_seq (qs_ret (xv 0))
  qs_nil))
abbrev st_count_in : Stmt := topS 21
theorem sc_count_in : FnScope ["figures", "figure", "coins", "turns", "rest"] ["figures", "figure", "coins"] (defScope st_count_in) := ⟨rfl, rfl, rfl, by decide +kernel, rfl, by decide +kernel, by decide +kernel⟩
theorem bd_count_in (Fs : FnsOk P w K mg base n (runF tbl glb wf n) tbl) (Bt : BtOk mg bts) (Gd : GdOk K mg glb) (f : Addr) (cdv : Value) (A : Around) (outer : List Env) (s : Shared) (H : Hp) (E : XK) (H₀ : Bs) (ι₀ : List Addr) (hr : RoomG n (A.deeper (envOfC "count_in" (defScope st_count_in) s.heap.objs.size f cdv))) :
    PSs (cxOf CX0 P w K mg base ["figures", "figure", "coins", "turns", "rest"] "count_in" (defScope st_count_in) f cdv A outer s H E).nox (defBody st_count_in) (TSv (runF tbl glb wf n) glb wf K H₀ ι₀ ir_count_in) :=
  have nd := sc_count_in.nd
  (qs_seq (sG (xb Bt bf_divmod (xr (xv 2) (xr (xb Bt bf_len (xr (xv 0) qr_nil)) qr_nil))) (xgt (xgc (xn 3 nd) (xgc (xn 4 nd) qgs_nil))))
  (qs_seq (qs_ret (qe_bin (qe_bin (xv 3) (xm (xv 0) (xr (xv 1) qr_nil))) (xm (qe_slc (xv 0) qo_none (qo_some (xv 4))) (xr (xv 1) qr_nil))))
  qs_nil))
abbrev st_parts_of : Stmt := topS 22
theorem sc_parts_of : FnScope ["runs", "coins", "found", "left", "size", "figures", "part"] ["runs", "coins"] (defScope st_parts_of) := ⟨rfl, rfl, rfl, by decide +kernel, rfl, by decide +kernel, by decide +kernel⟩
theorem bd_parts_of (Fs : FnsOk P w K mg base n (runF tbl glb wf n) tbl) (Bt : BtOk mg bts) (Gd : GdOk K mg glb) (f : Addr) (cdv : Value) (A : Around) (outer : List Env) (s : Shared) (H : Hp) (E : XK) (H₀ : Bs) (ι₀ : List Addr) (hr : RoomG n (A.deeper (envOfC "parts_of" (defScope st_parts_of) s.heap.objs.size f cdv))) :
    PSs (cxOf CX0 P w K mg base ["runs", "coins", "found", "left", "size", "figures", "part"] "parts_of" (defScope st_parts_of) f cdv A outer s H E).nox (defBody st_parts_of) (TSv (runF tbl glb wf n) glb wf K H₀ ι₀ ir_parts_of) :=
  have nd := sc_parts_of.nd
  (qs_seq (sP 2 3 nd (asF (qf_lst ql_nil)) (asE (xv 1)))
  (qs_seq (sF (qi_itr (xv 0)) (xgt (xgc (xn 4 nd) (xgc (xn 5 nd) qgs_nil))) (fun _ =>
  (qs_seq (sV 6 nd (qe_ite (xct hr (xv 4) qe_non) (xv 3) (xb Bt (bf_min rfl) (xr (xv 3) (xr (xv 4) qr_nil)))))
  (qs_seq (sA 2 (xv 6))
  (qs_seq (sU 3 nd (xv 6))
  qs_nil)))))
  (qs_seq (qs_ret (xv 2))
  qs_nil)))
abbrev st_count_by : Stmt := topS 23
theorem sc_count_by : FnScope ["runs", "figure", "coins", "parts", "run", "part"] ["runs", "figure", "coins"] (defScope st_count_by) := ⟨rfl, rfl, rfl, by decide +kernel, rfl, by decide +kernel, by decide +kernel⟩
theorem bd_count_by (Fs : FnsOk P w K mg base n (runF tbl glb wf n) tbl) (Bt : BtOk mg bts) (Gd : GdOk K mg glb) (f : Addr) (cdv : Value) (A : Around) (outer : List Env) (s : Shared) (H : Hp) (E : XK) (H₀ : Bs) (ι₀ : List Addr) (hr : RoomG n (A.deeper (envOfC "count_by" (defScope st_count_by) s.heap.objs.size f cdv))) :
    PSs (cxOf CX0 P w K mg base ["runs", "figure", "coins", "parts", "run", "part"] "count_by" (defScope st_count_by) f cdv A outer s H E).nox (defBody st_count_by) (TSv (runF tbl glb wf n) glb wf K H₀ ι₀ ir_count_by) :=
  have nd := sc_count_by.nd
  (qs_seq (sV 3 nd (xf Fs hr (xl (xv 0) (xl (xv 2) ql_nil))))
  (qs_seq (qs_ret (xb Bt (bf_sum rfl) (xr (xlv (xlc nd (xzp Bt (xv 0) (xv 3)) (fun _ _ _ _ _ => (xgt (xgc (xn 4 nd) (xgc (xn 5 nd) qgs_nil)))) (fun _ _ _ _ _ => qts_nil) (fun _ _ _ _ _ => (xf Fs hr (xl (xi (xv 4) qe_int) (xl (xv 1) (xl (xv 5) ql_nil))))))) qr_nil)))
  qs_nil))
abbrev st_has_in : Stmt := topS 24
theorem sc_has_in : FnScope ["deal", "coins", "names", "runs", "number"] ["deal", "coins"] (defScope st_has_in) := ⟨rfl, rfl, rfl, by decide +kernel, rfl, by decide +kernel, by decide +kernel⟩
theorem bd_has_in (Fs : FnsOk P w K mg base n (runF tbl glb wf n) tbl) (Bt : BtOk mg bts) (Gd : GdOk K mg glb) (f : Addr) (cdv : Value) (A : Around) (outer : List Env) (s : Shared) (H : Hp) (E : XK) (H₀ : Bs) (ι₀ : List Addr) (hr : RoomG n (A.deeper (envOfC "has_in" (defScope st_has_in) s.heap.objs.size f cdv))) :
    PSs (cxOf CX0 P w K mg base ["deal", "coins", "names", "runs", "number"] "has_in" (defScope st_has_in) f cdv A outer s H E).nox (defBody st_has_in) (TSv (runF tbl glb wf n) glb wf K H₀ ι₀ ir_has_in) :=
  have nd := sc_has_in.nd
  (qs_seq (sG (xv 0) (xgt (xgc (xn 2 nd) (xgc (xn 3 nd) qgs_nil))))
  (qs_seq (qs_ret (xy Bt bf_tuple (xr (xlv (xlc nd (xr1 Bt (xb Bt bf_len (xr (xv 2) qr_nil))) (fun _ _ _ _ _ => (xn 4 nd)) (fun _ _ _ _ _ => qts_nil) (fun _ _ _ _ _ => (xf Fs hr (xl (xv 3) (xl (xi (xg Gd) (xv 4)) (xl (xv 1) ql_nil))))))) qr_nil)))
  qs_nil))
abbrev st_place_in : Stmt := topS 25
theorem sc_place_in : FnScope ["runs", "coin", "left", "number", "size", "figures"] ["runs", "coin"] (defScope st_place_in) := ⟨rfl, rfl, rfl, by decide +kernel, rfl, by decide +kernel, by decide +kernel⟩
theorem bd_place_in (Fs : FnsOk P w K mg base n (runF tbl glb wf n) tbl) (Bt : BtOk mg bts) (Gd : GdOk K mg glb) (f : Addr) (cdv : Value) (A : Around) (outer : List Env) (s : Shared) (H : Hp) (E : XK) (H₀ : Bs) (ι₀ : List Addr) (hr : RoomG n (A.deeper (envOfC "place_in" (defScope st_place_in) s.heap.objs.size f cdv))) :
    PSs (cxOf CX0 P w K mg base ["runs", "coin", "left", "number", "size", "figures"] "place_in" (defScope st_place_in) f cdv A outer s H E).nox (defBody st_place_in) (TSv (runF tbl glb wf n) glb wf K H₀ ι₀ ir_place_in) :=
  have nd := sc_place_in.nd
  (qs_seq (sV 2 nd (xv 1))
  (qs_seq (sF (xen Bt (xv 0)) (xgt (xgc (xn 3 nd) (xgc (xgt (xgc (xn 4 nd) (xgc (xn 5 nd) qgs_nil))) qgs_nil))) (fun _ =>
  (qs_seq (qs_if (qt_or (wo_cons (xct hr (xv 4) qe_non) (wo_one (xct hr (xv 2) (xv 4)))))
  (qs_seq (qs_ret (qe_tup (xl (xv 3) (xl (xv 2) ql_nil))))
  qs_nil)
  qs_nil)
  (qs_seq (sU 2 nd (xv 4))
  qs_nil))))
  (qs_seq (qs_ret qe_non)
  qs_nil)))
abbrev st_name_in : Stmt := topS 26
theorem sc_name_in : FnScope ["deal", "coin", "figures", "names", "runs", "number", "left"] ["deal", "coin"] (defScope st_name_in) := ⟨rfl, rfl, rfl, by decide +kernel, rfl, by decide +kernel, by decide +kernel⟩
theorem bd_name_in (Fs : FnsOk P w K mg base n (runF tbl glb wf n) tbl) (Bt : BtOk mg bts) (Gd : GdOk K mg glb) (f : Addr) (cdv : Value) (A : Around) (outer : List Env) (s : Shared) (H : Hp) (E : XK) (H₀ : Bs) (ι₀ : List Addr) (hr : RoomG n (A.deeper (envOfC "name_in" (defScope st_name_in) s.heap.objs.size f cdv))) :
    PSs (cxOf CX0 P w K mg base ["deal", "coin", "figures", "names", "runs", "number", "left"] "name_in" (defScope st_name_in) f cdv A outer s H E).nox (defBody st_name_in) (TSv (runF tbl glb wf n) glb wf K H₀ ι₀ ir_name_in) :=
  have nd := sc_name_in.nd
  (qs_seq (sG (xv 0) (xgt (xgc (xn 3 nd) (xgc (xn 4 nd) qgs_nil))))
  (qs_seq (sG (xf Fs hr (xl (xv 4) (xl (xv 1) ql_nil))) (xgt (xgc (xn 5 nd) (xgc (xn 6 nd) qgs_nil))))
  (qs_seq (sV 2 nd (xi (xi (xv 4) (xv 5)) qe_int))
  (qs_seq (qs_ret (xi (xv 3) (xm (xg Gd) (xr (xi (xv 2) (qe_bin (xy Bt bf_int (xr (xv 6) qr_nil)) (xb Bt bf_len (xr (xv 2) qr_nil)))) qr_nil))))
  qs_nil))))
abbrev st_name_at : Stmt := topS 27
theorem sc_name_at : FnScope ["deal", "coin"] ["deal", "coin"] (defScope st_name_at) := ⟨rfl, rfl, rfl, by decide +kernel, rfl, by decide +kernel, by decide +kernel⟩
theorem bd_name_at (Fs : FnsOk P w K mg base n (runF tbl glb wf n) tbl) (Bt : BtOk mg bts) (Gd : GdOk K mg glb) (f : Addr) (cdv : Value) (A : Around) (outer : List Env) (s : Shared) (H : Hp) (E : XK) (H₀ : Bs) (ι₀ : List Addr) (hr : RoomG n (A.deeper (envOfC "name_at" (defScope st_name_at) s.heap.objs.size f cdv))) :
    PSs (cxOf CX0 P w K mg base ["deal", "coin"] "name_at" (defScope st_name_at) f cdv A outer s H E).nox (defBody st_name_at) (TSv (runF tbl glb wf n) glb wf K H₀ ι₀ ir_name_at) :=
  have nd := sc_name_at.nd
  (qs_seq (sE (xf Fs hr (xl (xv 0) ql_nil)))
  (qs_seq (qs_ret (xf Fs hr (xl (xv 0) (xl (xf Fs hr (xl (xv 1) ql_nil)) ql_nil))))
  qs_nil))
abbrev st_row_part : Stmt := topS 28
theorem sc_row_part : FnScope ["deal", "begin", "size", "place"] ["deal", "begin", "size"] (defScope st_row_part) := ⟨rfl, rfl, rfl, by decide +kernel, rfl, by decide +kernel, by decide +kernel⟩
theorem bd_row_part (Fs : FnsOk P w K mg base n (runF tbl glb wf n) tbl) (Bt : BtOk mg bts) (Gd : GdOk K mg glb) (f : Addr) (cdv : Value) (A : Around) (outer : List Env) (s : Shared) (H : Hp) (E : XK) (H₀ : Bs) (ι₀ : List Addr) (hr : RoomG n (A.deeper (envOfC "row_part" (defScope st_row_part) s.heap.objs.size f cdv))) :
    PSs (cxOf CX0 P w K mg base ["deal", "begin", "size", "place"] "row_part" (defScope st_row_part) f cdv A outer s H E).nox (defBody st_row_part) (TSv (runF tbl glb wf n) glb wf K H₀ ι₀ ir_row_part) :=
  have nd := sc_row_part.nd
  (qs_seq (sE (xf Fs hr (xl (xv 0) ql_nil)))
  (qs_seq (sE (xf Fs hr (xl (xv 1) ql_nil)))
  (qs_seq (qs_if (qt_not (xt (xf Fs hr (xl (xv 2) (xl qe_int (xl (xg Gd) ql_nil))))))
  (qs_seq qs_raise
  qs_nil)
  qs_nil)
  (qs_seq (qs_ret (xy Bt bf_tuple (xr (xlv (xlc nd (xr1 Bt (xv 2)) (fun _ _ _ _ _ => (xn 3 nd)) (fun _ _ _ _ _ => qts_nil) (fun _ _ _ _ _ => (xf Fs hr (xl (xv 0) (xl (qe_bin (xv 1) (xv 3)) ql_nil)))))) qr_nil)))
  qs_nil))))
abbrev st_has : Stmt := topS 29
theorem sc_has : FnScope ["deal", "coins"] ["deal", "coins"] (defScope st_has) := ⟨rfl, rfl, rfl, by decide +kernel, rfl, by decide +kernel, by decide +kernel⟩
theorem bd_has (Fs : FnsOk P w K mg base n (runF tbl glb wf n) tbl) (Bt : BtOk mg bts) (Gd : GdOk K mg glb) (f : Addr) (cdv : Value) (A : Around) (outer : List Env) (s : Shared) (H : Hp) (E : XK) (H₀ : Bs) (ι₀ : List Addr) (hr : RoomG n (A.deeper (envOfC "has" (defScope st_has) s.heap.objs.size f cdv))) :
    PSs (cxOf CX0 P w K mg base ["deal", "coins"] "has" (defScope st_has) f cdv A outer s H E).nox (defBody st_has) (TSv (runF tbl glb wf n) glb wf K H₀ ι₀ ir_has) :=
  have nd := sc_has.nd
  (qs_seq (sE (xf Fs hr (xl (xv 0) ql_nil)))
  (qs_seq (qs_ret (xf Fs hr (xl (xv 0) (xl (xf Fs hr (xl (xv 1) ql_nil)) ql_nil))))
  qs_nil))
abbrev st_gets : Stmt := topS 30
theorem sc_gets : FnScope ["deal", "behind", "coins", "one", "more"] ["deal", "behind", "coins"] (defScope st_gets) := ⟨rfl, rfl, rfl, by decide +kernel, rfl, by decide +kernel, by decide +kernel⟩
theorem bd_gets (Fs : FnsOk P w K mg base n (runF tbl glb wf n) tbl) (Bt : BtOk mg bts) (Gd : GdOk K mg glb) (f : Addr) (cdv : Value) (A : Around) (outer : List Env) (s : Shared) (H : Hp) (E : XK) (H₀ : Bs) (ι₀ : List Addr) (hr : RoomG n (A.deeper (envOfC "gets" (defScope st_gets) s.heap.objs.size f cdv))) :
    PSs (cxOf CX0 P w K mg base ["deal", "behind", "coins", "one", "more"] "gets" (defScope st_gets) f cdv A outer s H E).nox (defBody st_gets) (TSv (runF tbl glb wf n) glb wf K H₀ ι₀ ir_gets) :=
  have nd := sc_gets.nd
  (qs_seq (sE (xf Fs hr (xl (xv 0) ql_nil)))
  (qs_seq (sE (xf Fs hr (xl (xv 1) ql_nil)))
  (qs_seq (sE (xf Fs hr (xl (xv 2) ql_nil)))
  (qs_seq (qs_ret (xy Bt bf_tuple (xr (xlv (xlc nd (xzp Bt (xf Fs hr (xl (xv 0) (xl (xv 1) ql_nil))) (xf Fs hr (xl (xv 0) (xl (qe_bin (xv 1) (xv 2)) ql_nil)))) (fun _ _ _ _ _ => (xgt (xgc (xn 3 nd) (xgc (xn 4 nd) qgs_nil)))) (fun _ _ _ _ _ => qts_nil) (fun _ _ _ _ _ => (qe_bin (xv 4) (xv 3))))) qr_nil)))
  qs_nil))))
abbrev st_run_at : Stmt := topS 31
theorem sc_run_at : FnScope ["deal", "coin"] ["deal", "coin"] (defScope st_run_at) := ⟨rfl, rfl, rfl, by decide +kernel, rfl, by decide +kernel, by decide +kernel⟩
theorem bd_run_at (Fs : FnsOk P w K mg base n (runF tbl glb wf n) tbl) (Bt : BtOk mg bts) (Gd : GdOk K mg glb) (f : Addr) (cdv : Value) (A : Around) (outer : List Env) (s : Shared) (H : Hp) (E : XK) (H₀ : Bs) (ι₀ : List Addr) (hr : RoomG n (A.deeper (envOfC "run_at" (defScope st_run_at) s.heap.objs.size f cdv))) :
    PSs (cxOf CX0 P w K mg base ["deal", "coin"] "run_at" (defScope st_run_at) f cdv A outer s H E).nox (defBody st_run_at) (TSv (runF tbl glb wf n) glb wf K H₀ ι₀ ir_run_at) :=
  have nd := sc_run_at.nd
  (qs_seq (sE (xf Fs hr (xl (xv 0) ql_nil)))
  (qs_seq (qs_ret (xf Fs hr (xl (xi (xv 0) qe_int) (xl (xf Fs hr (xl (xv 1) ql_nil)) ql_nil))))
  qs_nil))
abbrev st__law_begun : Stmt := topS 33
theorem sc__law_begun : FnScope ["_law_script", "_law_great", "_law_cell"] ["_law_script"] (defScope st__law_begun) := ⟨rfl, rfl, rfl, by decide +kernel, rfl, by decide +kernel, by decide +kernel⟩
theorem bd__law_begun (Fs : FnsOk P w K mg base n (runF tbl glb wf n) tbl) (Bt : BtOk mg bts) (Gd : GdOk K mg glb) (f : Addr) (cdv : Value) (A : Around) (outer : List Env) (s : Shared) (H : Hp) (E : XK) (H₀ : Bs) (ι₀ : List Addr) (hr : RoomG n (A.deeper (envOfC "_law_begun" (defScope st__law_begun) s.heap.objs.size f cdv))) :
    PSs (cxOf CX0 P w K mg base ["_law_script", "_law_great", "_law_cell"] "_law_begun" (defScope st__law_begun) f cdv A outer s H E).nox (defBody st__law_begun) (TSv (runF tbl glb wf n) glb wf K H₀ ι₀ ir__law_begun) :=
  have nd := sc__law_begun.nd
  (qs_seq (sLc 1 nd (qi_itr (xv 0)) (fun _ _ _ _ _ => (xn 2 nd)) (fun _ _ _ _ _ => (qts_one (xct hr (xv 2) (qe_bin qe_int qe_int)))) (fun _ _ _ _ _ => (xv 2)))
  (qs_seq (qs_ret (xdw (xdc (qe_bin (xy Bt bf_list (xr (xv 0) qr_nil)) (qe_lst (xl (xb Bt bf_len (xr (xv 0) qr_nil)) ql_nil))) (xdc (qe_ite (xct hr (xv 1) (qe_lst ql_nil)) (xi (xv 1) qe_int) qe_int) (xdc qe_int xdn)))))
  qs_nil))
abbrev st__law_draw : Stmt := topS 34
theorem sc__law_draw : FnScope ["_law_m", "_law_many", "_law_spot", "_law_cell", "_law_mixed", "_law_found"] ["_law_m", "_law_many"] (defScope st__law_draw) := ⟨rfl, rfl, rfl, by decide +kernel, rfl, by decide +kernel, by decide +kernel⟩
theorem bd__law_draw (Fs : FnsOk P w K mg base n (runF tbl glb wf n) tbl) (Bt : BtOk mg bts) (Gd : GdOk K mg glb) (f : Addr) (cdv : Value) (A : Around) (outer : List Env) (s : Shared) (H : Hp) (E : XK) (H₀ : Bs) (ι₀ : List Addr) (hr : RoomG n (A.deeper (envOfC "_law_draw" (defScope st__law_draw) s.heap.objs.size f cdv))) :
    PSs (cxOf CX0 P w K mg base ["_law_m", "_law_many", "_law_spot", "_law_cell", "_law_mixed", "_law_found"] "_law_draw" (defScope st__law_draw) f cdv A outer s H E).nox (defBody st__law_draw) (TSv (runF tbl glb wf n) glb wf K H₀ ι₀ ir__law_draw) :=
  have nd := sc__law_draw.nd
  (qs_seq (qs_if (xct hr (xdg 0 hr) qe_int)
  (qs_seq (sV 5 nd (qe_bin (xy Bt bf_int (xr (xdg 0 hr) qr_nil)) (xv 1)))
  (qs_seq (sD 0 hr (qe_bin (xdg 0 hr) (xv 1)))
  (qs_seq (qs_ret (xv 5))
  qs_nil)))
  qs_nil)
  (qs_seq (sV 2 nd (qe_bin (xdg 0 hr) qe_int))
  (qs_seq (sD 0 hr (xv 2))
  (qs_seq (sV 3 nd (xi (xdg 0 hr) (qe_bin (xy Bt bf_int (xr (xv 2) qr_nil)) (xb Bt bf_len (xr (xdg 0 hr) qr_nil)))))
  (qs_seq (sV 4 nd (qe_bin (xy Bt bf_int (xr (qe_bin (qe_bin (qe_bin (xy Bt bf_int (xr (xv 3) qr_nil)) qe_int) (qe_bin qe_int (xv 2))) (qe_bin (qe_bin qe_int (xv 2)) (xv 2))) qr_nil)) qe_int))
  (qs_seq (sV 4 nd (qe_bin (xy Bt bf_int (xr (qe_bin (qe_bin (xy Bt bf_int (xr (xv 4) qr_nil)) qe_int) (qe_bin qe_int (xv 2))) qr_nil)) qe_int))
  (qs_seq (qs_ret (qe_bin (xy Bt bf_int (xr (qe_bin (qe_bin (xy Bt bf_int (xr (xv 4) qr_nil)) qe_int) qe_int) qr_nil)) (xv 1)))
  qs_nil)))))))
abbrev st__law_of : Stmt := topS 35
theorem sc__law_of : FnScope ["_law_m", "_law_some"] ["_law_m", "_law_some"] (defScope st__law_of) := ⟨rfl, rfl, rfl, by decide +kernel, rfl, by decide +kernel, by decide +kernel⟩
theorem bd__law_of (Fs : FnsOk P w K mg base n (runF tbl glb wf n) tbl) (Bt : BtOk mg bts) (Gd : GdOk K mg glb) (f : Addr) (cdv : Value) (A : Around) (outer : List Env) (s : Shared) (H : Hp) (E : XK) (H₀ : Bs) (ι₀ : List Addr) (hr : RoomG n (A.deeper (envOfC "_law_of" (defScope st__law_of) s.heap.objs.size f cdv))) :
    PSs (cxOf CX0 P w K mg base ["_law_m", "_law_some"] "_law_of" (defScope st__law_of) f cdv A outer s H E).nox (defBody st__law_of) (TSv (runF tbl glb wf n) glb wf K H₀ ι₀ ir__law_of) :=
  have nd := sc__law_of.nd
  (qs_seq (qs_ret (xi (xv 1) (xf Fs hr (xl (xv 0) (xl (xb Bt bf_len (xr (xv 1) qr_nil)) ql_nil)))))
  qs_nil)
abbrev st__law_people : Stmt := topS 36
theorem sc__law_people : FnScope ["_law_m", "_law_most", "_law_some"] ["_law_m", "_law_most"] (defScope st__law_people) := ⟨rfl, rfl, rfl, by decide +kernel, rfl, by decide +kernel, by decide +kernel⟩
theorem bd__law_people (Fs : FnsOk P w K mg base n (runF tbl glb wf n) tbl) (Bt : BtOk mg bts) (Gd : GdOk K mg glb) (f : Addr) (cdv : Value) (A : Around) (outer : List Env) (s : Shared) (H : Hp) (E : XK) (H₀ : Bs) (ι₀ : List Addr) (hr : RoomG n (A.deeper (envOfC "_law_people" (defScope st__law_people) s.heap.objs.size f cdv))) :
    PSs (cxOf CX0 P w K mg base ["_law_m", "_law_most", "_law_some"] "_law_people" (defScope st__law_people) f cdv A outer s H E).nox (defBody st__law_people) (TSv (runF tbl glb wf n) glb wf K H₀ ι₀ ir__law_people) :=
  have nd := sc__law_people.nd
  (qs_seq (sV 2 nd (qe_lst (xl (qe_tup (xl qe_str (xl qe_str (xl qe_str (xl qe_str (xl qe_str (xl qe_str ql_nil))))))) (xl (qe_tup (xl qe_str (xl qe_str (xl qe_str (xl qe_str (xl qe_str (xl qe_str ql_nil))))))) ql_nil))))
  (qs_seq (qs_ret (qe_slc (xf Fs hr (xl (xv 0) (xl (qe_bin (xv 2) (qe_lst (xl (qe_tup (xl qe_str (xl qe_str (xl qe_str (xl qe_str (xl qe_str (xl qe_str ql_nil))))))) ql_nil))) ql_nil))) qo_none (qo_some (qe_bin qe_int (xf Fs hr (xl (xv 0) (xl (xv 1) ql_nil)))))))
  qs_nil))
abbrev st__law_figures : Stmt := topS 37
theorem sc__law_figures : FnScope ["_law_m", "_law_total", "_law_long", "_law_k"] ["_law_m", "_law_total", "_law_long"] (defScope st__law_figures) := ⟨rfl, rfl, rfl, by decide +kernel, rfl, by decide +kernel, by decide +kernel⟩
theorem bd__law_figures (Fs : FnsOk P w K mg base n (runF tbl glb wf n) tbl) (Bt : BtOk mg bts) (Gd : GdOk K mg glb) (f : Addr) (cdv : Value) (A : Around) (outer : List Env) (s : Shared) (H : Hp) (E : XK) (H₀ : Bs) (ι₀ : List Addr) (hr : RoomG n (A.deeper (envOfC "_law_figures" (defScope st__law_figures) s.heap.objs.size f cdv))) :
    PSs (cxOf CX0 P w K mg base ["_law_m", "_law_total", "_law_long", "_law_k"] "_law_figures" (defScope st__law_figures) f cdv A outer s H E).nox (defBody st__law_figures) (TSv (runF tbl glb wf n) glb wf K H₀ ι₀ ir__law_figures) :=
  have nd := sc__law_figures.nd
  (qs_seq (qs_ret (xm qe_str (xr (xlv (xlc nd (xr1 Bt (qe_bin qe_int (xf Fs hr (xl (xv 0) (xl (xv 2) ql_nil))))) (fun _ _ _ _ _ => (xn 3 nd)) (fun _ _ _ _ _ => qts_nil) (fun _ _ _ _ _ => (xi qe_str (xf Fs hr (xl (xv 0) (xl (xv 1) ql_nil))))))) qr_nil)))
  qs_nil)
abbrev st__law_runs : Stmt := topS 38
theorem sc__law_runs : FnScope ["_law_m", "_law_total", "_law_many", "_law_top", "_law_long", "_law_found", "_law_k"] ["_law_m", "_law_total", "_law_many", "_law_top", "_law_long"] (defScope st__law_runs) := ⟨rfl, rfl, rfl, by decide +kernel, rfl, by decide +kernel, by decide +kernel⟩
theorem bd__law_runs (Fs : FnsOk P w K mg base n (runF tbl glb wf n) tbl) (Bt : BtOk mg bts) (Gd : GdOk K mg glb) (f : Addr) (cdv : Value) (A : Around) (outer : List Env) (s : Shared) (H : Hp) (E : XK) (H₀ : Bs) (ι₀ : List Addr) (hr : RoomG n (A.deeper (envOfC "_law_runs" (defScope st__law_runs) s.heap.objs.size f cdv))) :
    PSs (cxOf CX0 P w K mg base ["_law_m", "_law_total", "_law_many", "_law_top", "_law_long", "_law_found", "_law_k"] "_law_runs" (defScope st__law_runs) f cdv A outer s H E).nox (defBody st__law_runs) (TSv (runF tbl glb wf n) glb wf K H₀ ι₀ ir__law_runs) :=
  have nd := sc__law_runs.nd
  (qs_seq (sO 5 nd (qf_lst ql_nil))
  (qs_seq (sF (xr1 Bt (xf Fs hr (xl (xv 0) (xl (xv 2) ql_nil)))) (xn 6 nd) (fun _ =>
  (qs_seq (sA 5 (qe_tup (xl (qe_bin qe_int (xf Fs hr (xl (xv 0) (xl (xv 3) ql_nil)))) (xl (xf Fs hr (xl (xv 0) (xl (xv 1) (xl (xv 4) ql_nil)))) ql_nil))))
  qs_nil)))
  (qs_seq (qs_ret (xy Bt bf_tuple (xr (qe_bin (xv 5) (qe_lst (xl (qe_tup (xl qe_non (xl (xf Fs hr (xl (xv 0) (xl (xv 1) (xl (xv 4) ql_nil)))) ql_nil))) ql_nil))) qr_nil)))
  qs_nil)))
abbrev st__law_deal : Stmt := topS 39
theorem sc__law_deal : FnScope ["_law_m", "_law_most", "_law_many", "_law_top", "_law_long", "_law_people_here"] ["_law_m", "_law_most", "_law_many", "_law_top", "_law_long"] (defScope st__law_deal) := ⟨rfl, rfl, rfl, by decide +kernel, rfl, by decide +kernel, by decide +kernel⟩
theorem bd__law_deal (Fs : FnsOk P w K mg base n (runF tbl glb wf n) tbl) (Bt : BtOk mg bts) (Gd : GdOk K mg glb) (f : Addr) (cdv : Value) (A : Around) (outer : List Env) (s : Shared) (H : Hp) (E : XK) (H₀ : Bs) (ι₀ : List Addr) (hr : RoomG n (A.deeper (envOfC "_law_deal" (defScope st__law_deal) s.heap.objs.size f cdv))) :
    PSs (cxOf CX0 P w K mg base ["_law_m", "_law_most", "_law_many", "_law_top", "_law_long", "_law_people_here"] "_law_deal" (defScope st__law_deal) f cdv A outer s H E).nox (defBody st__law_deal) (TSv (runF tbl glb wf n) glb wf K H₀ ι₀ ir__law_deal) :=
  have nd := sc__law_deal.nd
  (qs_seq (sV 5 nd (xf Fs hr (xl (xv 0) (xl (xv 1) ql_nil))))
  (qs_seq (qs_ret (qe_tup (xl (xv 5) (xl (xf Fs hr (xl (xv 0) (xl (xb Bt bf_len (xr (xv 5) qr_nil)) (xl (xv 2) (xl (xv 3) (xl (xv 4) ql_nil)))))) ql_nil))))
  qs_nil))
abbrev st__law_row : Stmt := topS 40
theorem sc__law_row : FnScope ["_law_runs_here", "_law_size", "_law_found", "_law_coins", "_law_figures_here", "_law_left", "_law_k"] ["_law_runs_here", "_law_size"] (defScope st__law_row) := ⟨rfl, rfl, rfl, by decide +kernel, rfl, by decide +kernel, by decide +kernel⟩
theorem bd__law_row (Fs : FnsOk P w K mg base n (runF tbl glb wf n) tbl) (Bt : BtOk mg bts) (Gd : GdOk K mg glb) (f : Addr) (cdv : Value) (A : Around) (outer : List Env) (s : Shared) (H : Hp) (E : XK) (H₀ : Bs) (ι₀ : List Addr) (hr : RoomG n (A.deeper (envOfC "_law_row" (defScope st__law_row) s.heap.objs.size f cdv))) :
    PSs (cxOf CX0 P w K mg base ["_law_runs_here", "_law_size", "_law_found", "_law_coins", "_law_figures_here", "_law_left", "_law_k"] "_law_row" (defScope st__law_row) f cdv A outer s H E).nox (defBody st__law_row) (TSv (runF tbl glb wf n) glb wf K H₀ ι₀ ir__law_row) :=
  have nd := sc__law_row.nd
  (qs_seq (sV 2 nd (qe_lst ql_nil))
  (qs_seq (sF (qi_itr (xv 0)) (xgt (xgc (xn 3 nd) (xgc (xn 4 nd) qgs_nil))) (fun _ =>
  (qs_seq (sV 5 nd (qe_ite (xct hr (xv 3) qe_non) (qe_bin (xv 1) (xb Bt bf_len (xr (xv 2) qr_nil))) (xb Bt (bf_min rfl) (xr (xv 3) (xr (qe_bin (xv 1) (xb Bt bf_len (xr (xv 2) qr_nil))) qr_nil)))))
  (qs_seq (sV 2 nd (qe_bin (xv 2) (xlv (xlc nd (xr1 Bt (xv 5)) (fun _ _ _ _ _ => (xn 6 nd)) (fun _ _ _ _ _ => qts_nil) (fun _ _ _ _ _ => (xi (xv 4) (qe_bin (xy Bt bf_int (xr (xv 6) qr_nil)) (xb Bt bf_len (xr (xv 4) qr_nil)))))))))
  qs_nil))))
  (qs_seq (qs_ret (xv 2))
  qs_nil)))
abbrev st__law_places : Stmt := topS 41
theorem sc__law_places : FnScope ["_law_runs_here", "_law_size", "_law_found", "_law_number", "_law_left", "_law_coins", "_law_figures_here", "_law_k"] ["_law_runs_here", "_law_size"] (defScope st__law_places) := ⟨rfl, rfl, rfl, by decide +kernel, rfl, by decide +kernel, by decide +kernel⟩
theorem bd__law_places (Fs : FnsOk P w K mg base n (runF tbl glb wf n) tbl) (Bt : BtOk mg bts) (Gd : GdOk K mg glb) (f : Addr) (cdv : Value) (A : Around) (outer : List Env) (s : Shared) (H : Hp) (E : XK) (H₀ : Bs) (ι₀ : List Addr) (hr : RoomG n (A.deeper (envOfC "_law_places" (defScope st__law_places) s.heap.objs.size f cdv))) :
    PSs (cxOf CX0 P w K mg base ["_law_runs_here", "_law_size", "_law_found", "_law_number", "_law_left", "_law_coins", "_law_figures_here", "_law_k"] "_law_places" (defScope st__law_places) f cdv A outer s H E).nox (defBody st__law_places) (TSv (runF tbl glb wf n) glb wf K H₀ ι₀ ir__law_places) :=
  have nd := sc__law_places.nd
  (qs_seq (sV 2 nd (qe_lst ql_nil))
  (qs_seq (sF (xen Bt (xv 0)) (xgt (xgc (xn 3 nd) (xgc (xgt (xgc (xn 5 nd) (xgc (xn 6 nd) qgs_nil))) qgs_nil))) (fun _ =>
  (qs_seq (sV 4 nd (qe_ite (xct hr (xv 5) qe_non) (qe_bin (xv 1) (xb Bt bf_len (xr (xv 2) qr_nil))) (xb Bt (bf_min rfl) (xr (xv 5) (xr (qe_bin (xv 1) (xb Bt bf_len (xr (xv 2) qr_nil))) qr_nil)))))
  (qs_seq (sV 2 nd (qe_bin (xv 2) (xlv (xlc nd (xr1 Bt (xv 4)) (fun _ _ _ _ _ => (xn 7 nd)) (fun _ _ _ _ _ => qts_nil) (fun _ _ _ _ _ => (qe_tup (xl (xv 3) (xl (xv 7) ql_nil))))))))
  qs_nil))))
  (qs_seq (qs_ret (xv 2))
  qs_nil)))
abbrev st__law_right : Stmt := topS 42
theorem sc__law_right : FnScope ["_law_m", "_law_pact", "_law_total", "_law_row_here", "_law_one", "_law_again", "_law_people_here", "_law_runs_here", "_law_sums", "_law_own", "_law_begin", "_law_due", "_law_told", "_law_both", "_law_sign", "_law_more", "_law_far", "_law_k", "_law_two"] ["_law_m", "_law_pact"] (defScope st__law_right) := ⟨rfl, rfl, rfl, by decide +kernel, rfl, by decide +kernel, by decide +kernel⟩
theorem bd__law_right (Fs : FnsOk P w K mg base n (runF tbl glb wf n) tbl) (Bt : BtOk mg bts) (Gd : GdOk K mg glb) (f : Addr) (cdv : Value) (A : Around) (outer : List Env) (s : Shared) (H : Hp) (E : XK) (H₀ : Bs) (ι₀ : List Addr) (hr : RoomG n (A.deeper (envOfC "_law_right" (defScope st__law_right) s.heap.objs.size f cdv))) :
    PSs (cxOf CX0 P w K mg base ["_law_m", "_law_pact", "_law_total", "_law_row_here", "_law_one", "_law_again", "_law_people_here", "_law_runs_here", "_law_sums", "_law_own", "_law_begin", "_law_due", "_law_told", "_law_both", "_law_sign", "_law_more", "_law_far", "_law_k", "_law_two"] "_law_right" (defScope st__law_right) f cdv A outer s H E).nox (defBody st__law_right) (TSv (runF tbl glb wf n) glb wf K H₀ ι₀ ir__law_right) :=
  have nd := sc__law_right.nd
  (qs_seq (sG (xv 1) (xgt (xgc (xn 6 nd) (xgc (xn 7 nd) qgs_nil))))
  (qs_seq (sV 2 nd (xb Bt bf_len (xr (xv 6) qr_nil)))
  (qs_seq (sLc 3 nd (qi_itr (xf Fs hr (xl (xv 7) (xl qe_int ql_nil)))) (fun _ _ _ _ _ => (xn 14 nd)) (fun _ _ _ _ _ => qts_nil) (fun _ _ _ _ _ => (xi (xv 6) (xm qe_str (xr (xv 14) qr_nil)))))
  (qs_seq (qs_if (xct hr (xb Bt (bf_repr hr) (xr (xlv (xlc nd (xr1 Bt qe_int) (fun _ _ _ _ _ => (xn 17 nd)) (fun _ _ _ _ _ => qts_nil) (fun _ _ _ _ _ => (xf Fs hr (xl (xv 1) (xl (xv 17) ql_nil)))))) qr_nil)) (xb Bt (bf_repr hr) (xr (xv 3) qr_nil)))
  (qs_seq (qs_ret qe_bl)
  qs_nil)
  qs_nil)
  (qs_seq (qs_if (xct hr (xb Bt (bf_repr hr) (xr (xf Fs hr (xl (xv 1) (xl qe_int (xl qe_int ql_nil)))) qr_nil)) (xb Bt (bf_repr hr) (xr (xy Bt bf_tuple (xr (xv 3) qr_nil)) qr_nil)))
  (qs_seq (qs_ret qe_bl)
  qs_nil)
  qs_nil)
  (qs_seq (qs_if (xct hr (xb Bt (bf_repr hr) (xr (xlv (xlc nd (xr1 Bt qe_int) (fun _ _ _ _ _ => (xn 17 nd)) (fun _ _ _ _ _ => qts_nil) (fun _ _ _ _ _ => (xf Fs hr (xl (xv 1) (xl (xv 17) ql_nil)))))) qr_nil)) (xb Bt (bf_repr hr) (xr (xf Fs hr (xl (xv 7) (xl qe_int ql_nil))) qr_nil)))
  (qs_seq (qs_ret qe_bl)
  qs_nil)
  qs_nil)
  (qs_seq (sP 8 9 nd (asF (qf_lst (xl (qe_bin (qe_tup (xl qe_int ql_nil)) (xv 2)) ql_nil))) (asF (qf_rep (xl qe_int ql_nil) (xv 2))))
  (qs_seq (sF (qi_itr (xv 3)) (xn 4 nd) (fun _ =>
  (qs_seq (sU2 9 (xm (xv 6) (xr (xv 4) qr_nil)) qe_int)
  (qs_seq (sA 8 (xy Bt bf_tuple (xr (xv 9) qr_nil)))
  qs_nil))))
  (qs_seq (qs_if (xct hr (xb Bt (bf_repr hr) (xr (xlv (xlc nd (xr1 Bt qe_int) (fun _ _ _ _ _ => (xn 17 nd)) (fun _ _ _ _ _ => qts_nil) (fun _ _ _ _ _ => (xf Fs hr (xl (xv 1) (xl (xv 17) ql_nil)))))) qr_nil)) (xb Bt (bf_repr hr) (xr (xv 8) qr_nil)))
  (qs_seq (qs_ret qe_bl)
  qs_nil)
  qs_nil)
  (qs_seq (sF (xr1 Bt qe_int) (xn 5 nd) (fun _ =>
  (qs_seq (sV 10 nd (xf Fs hr (xl (xv 0) (xl qe_int ql_nil))))
  (qs_seq (sP 15 16 nd (asE (xf Fs hr (xl (xv 0) (xl qe_int ql_nil)))) (asE (xf Fs hr (xl (xv 0) (xl qe_int ql_nil)))))
  (qs_seq (sO 11 nd (qf_lst (xl (xy Bt bf_tuple (xr (xlv (xlc nd (xzp Bt (xi (xv 8) (xv 10)) (xi (xv 8) (qe_bin (xv 10) (xv 15)))) (fun _ _ _ _ _ => (xgt (xgc (xn 4 nd) (xgc (xn 18 nd) qgs_nil)))) (fun _ _ _ _ _ => qts_nil) (fun _ _ _ _ _ => (qe_bin (xv 18) (xv 4))))) qr_nil)) ql_nil)))
  (qs_seq (sA 11 (xy Bt bf_tuple (xr (xlv (xlc nd (xzp Bt (xi (xv 8) (qe_bin (xv 10) (xv 15))) (xi (xv 8) (qe_bin (qe_bin (xv 10) (xv 15)) (xv 16)))) (fun _ _ _ _ _ => (xgt (xgc (xn 4 nd) (xgc (xn 18 nd) qgs_nil)))) (fun _ _ _ _ _ => qts_nil) (fun _ _ _ _ _ => (qe_bin (xv 18) (xv 4))))) qr_nil)))
  (qs_seq (sV 12 nd (qe_lst (xl (xf Fs hr (xl (xv 1) (xl (xv 10) (xl (xv 15) ql_nil)))) (xl (xf Fs hr (xl (xv 1) (xl (qe_bin (xv 10) (xv 15)) (xl (xv 16) ql_nil)))) ql_nil))))
  (qs_seq (qs_if (xct hr (xb Bt (bf_repr hr) (xr (xv 12) qr_nil)) (xb Bt (bf_repr hr) (xr (xv 11) qr_nil)))
  (qs_seq (qs_ret qe_bl)
  qs_nil)
  qs_nil)
  (qs_seq (qs_if (xct hr (xb Bt (bf_repr hr) (xr (xf Fs hr (xl (xv 1) (xl (xv 10) (xl (xv 15) ql_nil)))) qr_nil)) (xb Bt (bf_repr hr) (xr (xy Bt bf_tuple (xr (qe_slc (xv 3) (qo_some (xv 10)) (qo_some (qe_bin (xv 10) (xv 15)))) qr_nil)) qr_nil)))
  (qs_seq (qs_ret qe_bl)
  qs_nil)
  qs_nil)
  (qs_seq (sV 13 nd (xy Bt bf_tuple (xr (xlv (xlc nd (xzp Bt (xi (xv 12) qe_int) (xi (xv 12) qe_int)) (fun _ _ _ _ _ => (xgt (xgc (xn 4 nd) (xgc (xn 18 nd) qgs_nil)))) (fun _ _ _ _ _ => qts_nil) (fun _ _ _ _ _ => (qe_bin (xv 4) (xv 18))))) qr_nil)))
  (qs_seq (qs_if (qt_or (wo_cons (xct hr (xf Fs hr (xl (xv 1) (xl (xv 10) (xl (qe_bin (xv 15) (xv 16)) ql_nil)))) (xv 13)) (wo_one (xct hr (xf Fs hr (xl (xv 1) (xl (xv 10) (xl qe_int ql_nil)))) (qe_bin (qe_tup (xl qe_int ql_nil)) (xv 2))))))
  (qs_seq (qs_ret qe_bl)
  qs_nil)
  qs_nil)
  qs_nil)))))))))))
  (qs_seq (qs_ret qe_bl)
  qs_nil)))))))))))
abbrev st_law : Stmt := topS 43
theorem sc_law : FnScope ["_law_script", "_law_m", "_law_lap", "_law_one", "_law_pact", "_law_kept"] ["_law_script"] (defScope st_law) := ⟨rfl, rfl, rfl, by decide +kernel, rfl, by decide +kernel, by decide +kernel⟩
theorem bd_law (Fs : FnsOk P w K mg base n (runF tbl glb wf n) tbl) (Bt : BtOk mg bts) (Gd : GdOk K mg glb) (f : Addr) (cdv : Value) (A : Around) (outer : List Env) (s : Shared) (H : Hp) (E : XK) (H₀ : Bs) (ι₀ : List Addr) (hr : RoomG n (A.deeper (envOfC "law" (defScope st_law) s.heap.objs.size f cdv))) :
    PSs (cxOf CX0 P w K mg base ["_law_script", "_law_m", "_law_lap", "_law_one", "_law_pact", "_law_kept"] "law" (defScope st_law) f cdv A outer s H E).nox (defBody st_law) (TSv (runF tbl glb wf n) glb wf K H₀ ι₀ ir_law) :=
  have nd := sc_law.nd
  (qs_seq (sV 1 nd (xf Fs hr (xl (xv 0) ql_nil)))
  (qs_seq (sF (xr1 Bt (qe_bin qe_int (xb Bt (bf_min rfl) (xr (xb Bt bf_len (xr (xv 0) qr_nil)) (xr qe_int qr_nil))))) (xn 2 nd) (fun _ =>
  (qs_seq (sV 4 nd (xf Fs hr (xl (xv 1) (xl qe_int (xl qe_int (xl qe_int (xl qe_int ql_nil)))))))
  (qs_seq (sV 5 nd (xb Bt (bf_repr hr) (xr (xv 4) qr_nil)))
  (qs_seq (qs_if (qt_or (wo_cons (qt_not (xt (xf Fs hr (xl (xv 1) (xl (xv 4) ql_nil))))) (wo_one (xct hr (xb Bt (bf_repr hr) (xr (xv 4) qr_nil)) (xv 5)))))
  (qs_seq (qs_ret qe_bl)
  qs_nil)
  qs_nil)
  qs_nil)))))
  (qs_seq (sV 3 nd (qe_tup (xl (qe_tup (xl qe_str (xl qe_str ql_nil))) (xl (qe_tup (xl (qe_tup (xl qe_int (xl qe_str ql_nil))) (xl (qe_tup (xl qe_int (xl qe_str ql_nil))) (xl (qe_tup (xl qe_non (xl qe_str ql_nil))) ql_nil)))) ql_nil))))
  (qs_seq (qs_if (xct hr (xf Fs hr (xl (xv 3) (xl qe_int (xl qe_int ql_nil)))) (qe_tup (xl qe_str (xl qe_str (xl qe_str (xl qe_str (xl qe_str (xl qe_str (xl qe_str (xl qe_str (xl qe_str (xl qe_str (xl qe_str (xl qe_str (xl qe_str ql_nil)))))))))))))))
  (qs_seq (qs_ret qe_bl)
  qs_nil)
  qs_nil)
  (qs_seq (qs_if (qt_or (wo_cons (xct hr (xf Fs hr (xl (xv 3) (xl qe_int ql_nil))) (qe_tup (xl qe_int (xl qe_int ql_nil)))) (wo_cons (xct hr (xf Fs hr (xl (xv 3) (xl qe_int (xl qe_int ql_nil)))) (qe_tup (xl qe_int (xl qe_int ql_nil)))) (wo_one (xct hr (xf Fs hr (xl (xv 3) (xl qe_int (xl qe_int ql_nil)))) (qe_tup (xl qe_int (xl qe_int ql_nil))))))))
  (qs_seq (qs_ret qe_bl)
  qs_nil)
  qs_nil)
  (qs_seq (qs_ret (qe_and (qa_cons (xc hr (xf Fs hr (xl (xv 3) (xl qe_int ql_nil))) (qe_tup (xl qe_int (xl qe_int ql_nil)))) (qa_one (xc hr (xf Fs hr (xl (xv 3) (xl qe_int ql_nil))) qe_str)))))
  qs_nil))))))
end
end Rv

set_option Elab.async false
set_option linter.all false
set_option maxRecDepth 100000
set_option maxHeartbeats 4000000
namespace Rv
open PySem PySem.Spec PyProof.Rows L2
section
variable {P : Program} {w : World} {K : PySem.W.Frag} {mg : Str → Option Value} {base : Heap} {wf : Nat}
theorem gd_if {c : Str} {d : PyData} {GL : Str → Option PyData} {u : Value} {v : V} (h : mg c = some u) (r : RelV v u) (a : ∀ H, At K H v d) (g : GdOk K mg GL) : GdOk K mg (fun x => if x = c then some d else GL x) := fun x e hx => by
  simp only at hx
  split at hx
  · rename_i hc
    cases hx
    exact ⟨u, v, by rw [hc]; exact h, r, a⟩
  · exact g x e hx
theorem gd_nil : GdOk K mg (fun _ => none) := fun x e hx => nomatch hx
theorem bt_nil : BtOk mg [] := fun x hx => nomatch hx
theorem bt_cons {b : Str} {bs : List Str} (h : mg b = none) (g : BtOk mg bs) : BtOk mg (b :: bs) := fun x hx => by
  rcases List.mem_cons.mp hx with rfl | hx
  · exact h
  · exact g x hx
theorem all_ok {f1 f2 f3 f4 f5 f6 f7 f8 f9 f10 f11 f12 f13 f14 f15 f16 f17 f18 f19 f20 f21 f22 f23 f24 f25 f26 f27 f28 f29 : Addr} {d1 d2 d3 d4 d5 d6 d7 d8 d9 d10 d11 d12 d13 d14 d15 d16 d17 d18 d19 d20 d21 d22 d23 d24 d25 d26 d27 d28 d29 : FuncData} (Bt : BtOk mg bts) (Gd : GdOk K mg glb)
    (D1 : Dn K mg "is_whole" st_is_whole ["thing", "least", "most"] f1 d1)
    (D2 : Dn K mg "is_word" st_is_word ["thing"] f2 d2)
    (D3 : Dn K mg "are_names" st_are_names ["thing"] f3 d3)
    (D4 : Dn K mg "are_figures" st_are_figures ["many", "thing"] f4 d4)
    (D5 : Dn K mg "is_run" st_is_run ["many", "thing", "is_last"] f5 d5)
    (D6 : Dn K mg "need_deal" st_need_deal ["thing"] f6 d6)
    (D7 : Dn K mg "need_number" st_need_number ["thing"] f7 d7)
    (D8 : Dn K mg "count_in" st_count_in ["figures", "figure", "coins"] f8 d8)
    (D9 : Dn K mg "parts_of" st_parts_of ["runs", "coins"] f9 d9)
    (D10 : Dn K mg "count_by" st_count_by ["runs", "figure", "coins"] f10 d10)
    (D11 : Dn K mg "has_in" st_has_in ["deal", "coins"] f11 d11)
    (D12 : Dn K mg "place_in" st_place_in ["runs", "coin"] f12 d12)
    (D13 : Dn K mg "name_in" st_name_in ["deal", "coin"] f13 d13)
    (D14 : Dn K mg "name_at" st_name_at ["deal", "coin"] f14 d14)
    (D15 : Dn K mg "row_part" st_row_part ["deal", "begin", "size"] f15 d15)
    (D16 : Dn K mg "has" st_has ["deal", "coins"] f16 d16)
    (D17 : Dn K mg "gets" st_gets ["deal", "behind", "coins"] f17 d17)
    (D18 : Dn K mg "run_at" st_run_at ["deal", "coin"] f18 d18)
    (D19 : Dn K mg "_law_begun" st__law_begun ["_law_script"] f19 d19)
    (D20 : Dn K mg "_law_draw" st__law_draw ["_law_m", "_law_many"] f20 d20)
    (D21 : Dn K mg "_law_of" st__law_of ["_law_m", "_law_some"] f21 d21)
    (D22 : Dn K mg "_law_people" st__law_people ["_law_m", "_law_most"] f22 d22)
    (D23 : Dn K mg "_law_figures" st__law_figures ["_law_m", "_law_total", "_law_long"] f23 d23)
    (D24 : Dn K mg "_law_runs" st__law_runs ["_law_m", "_law_total", "_law_many", "_law_top", "_law_long"] f24 d24)
    (D25 : Dn K mg "_law_deal" st__law_deal ["_law_m", "_law_most", "_law_many", "_law_top", "_law_long"] f25 d25)
    (D26 : Dn K mg "_law_row" st__law_row ["_law_runs_here", "_law_size"] f26 d26)
    (D27 : Dn K mg "_law_places" st__law_places ["_law_runs_here", "_law_size"] f27 d27)
    (D28 : Dn K mg "_law_right" st__law_right ["_law_m", "_law_pact"] f28 d28)
    (D29 : Dn K mg "law" st_law ["_law_script"] f29 d29)
    : ∀ n, FnsOk P w K mg base n (runF tbl glb wf n) tbl := by
  intro n
  induction n with
  | zero => exact AllFn.look (show AllFn (fun f fn => FnAt P w K mg base 0 (runF tbl glb wf 0) f fn.np) tbl from ⟨D1.zero rfl, D2.zero rfl, D3.zero rfl, D4.zero rfl, D5.zero rfl, D6.zero rfl, D7.zero rfl, D8.zero rfl, D9.zero rfl, D10.zero rfl, D11.zero rfl, D12.zero rfl, D13.zero rfl, D14.zero rfl, D15.zero rfl, D16.zero rfl, D17.zero rfl, D18.zero rfl, D19.zero rfl, D20.zero rfl, D21.zero rfl, D22.zero rfl, D23.zero rfl, D24.zero rfl, D25.zero rfl, D26.zero rfl, D27.zero rfl, D28.zero rfl, D29.zero rfl, trivial⟩)
  | succ n ih => exact AllFn.look (show AllFn (fun f fn => FnAt P w K mg base (n + 1) (runF tbl glb wf (n + 1)) f fn.np) tbl from ⟨D1.at_ sc_is_whole rfl rfl rfl (bd_is_whole ih Bt Gd _),
    D2.at_ sc_is_word rfl rfl rfl (bd_is_word ih Bt Gd _),
    D3.at_ sc_are_names rfl rfl rfl (bd_are_names ih Bt Gd _),
    D4.at_ sc_are_figures rfl rfl rfl (bd_are_figures ih Bt Gd _),
    D5.at_ sc_is_run rfl rfl rfl (bd_is_run ih Bt Gd _),
    D6.at_ sc_need_deal rfl rfl rfl (bd_need_deal ih Bt Gd _),
    D7.at_ sc_need_number rfl rfl rfl (bd_need_number ih Bt Gd _),
    D8.at_ sc_count_in rfl rfl rfl (bd_count_in ih Bt Gd _),
    D9.at_ sc_parts_of rfl rfl rfl (bd_parts_of ih Bt Gd _),
    D10.at_ sc_count_by rfl rfl rfl (bd_count_by ih Bt Gd _),
    D11.at_ sc_has_in rfl rfl rfl (bd_has_in ih Bt Gd _),
    D12.at_ sc_place_in rfl rfl rfl (bd_place_in ih Bt Gd _),
    D13.at_ sc_name_in rfl rfl rfl (bd_name_in ih Bt Gd _),
    D14.at_ sc_name_at rfl rfl rfl (bd_name_at ih Bt Gd _),
    D15.at_ sc_row_part rfl rfl rfl (bd_row_part ih Bt Gd _),
    D16.at_ sc_has rfl rfl rfl (bd_has ih Bt Gd _),
    D17.at_ sc_gets rfl rfl rfl (bd_gets ih Bt Gd _),
    D18.at_ sc_run_at rfl rfl rfl (bd_run_at ih Bt Gd _),
    D19.at_ sc__law_begun rfl rfl rfl (bd__law_begun ih Bt Gd _),
    D20.at_ sc__law_draw rfl rfl rfl (bd__law_draw ih Bt Gd _),
    D21.at_ sc__law_of rfl rfl rfl (bd__law_of ih Bt Gd _),
    D22.at_ sc__law_people rfl rfl rfl (bd__law_people ih Bt Gd _),
    D23.at_ sc__law_figures rfl rfl rfl (bd__law_figures ih Bt Gd _),
    D24.at_ sc__law_runs rfl rfl rfl (bd__law_runs ih Bt Gd _),
    D25.at_ sc__law_deal rfl rfl rfl (bd__law_deal ih Bt Gd _),
    D26.at_ sc__law_row rfl rfl rfl (bd__law_row ih Bt Gd _),
    D27.at_ sc__law_places rfl rfl rfl (bd__law_places ih Bt Gd _),
    D28.at_ sc__law_right rfl rfl rfl (bd__law_right ih Bt Gd _),
    D29.at_ sc_law rfl rfl rfl (bd_law ih Bt Gd _), trivial⟩)
end
theorem all_mk {l : PySem.W.OpenLaw} {w : World} {K : PySem.W.Frag} {h : Heap} {mg : Str → Option Value} {fa f1 f2 f3 f4 f5 f6 f7 f8 f9 f10 f11 f12 f13 f14 f15 f16 f17 f18 f19 f20 f21 f22 f23 f24 f25 f26 f27 f28 f29 : Addr} (X : K.In h) (G : h.Ns mainGlobals mg) (hfa : mg "law" = some (.ref fa))
    {od1 an1 od2 an2 od3 an3 od4 an4 od5 an5 od6 an6 od7 an7 od8 an8 od9 an9 od10 an10 od11 an11 od12 an12 od13 an13 od14 an14 od15 an15 od16 an16 od17 an17 od18 an18 od19 an19 od20 an20 od21 an21 od22 an22 od23 an23 od24 an24 od25 an25 od26 an26 od27 an27 od28 an28 od29 an29 : Option Addr} {sl1 sl2 sl3 sl4 sl5 sl6 sl7 sl8 sl9 sl10 sl11 sl12 sl13 sl14 sl15 sl16 sl17 sl18 sl19 sl20 sl21 sl22 sl23 sl24 sl25 sl26 sl27 sl28 sl29 : Array (Option Value)} {oc1 kV1 dc1 pm1 cd1 ct1 oc2 kV2 dc2 pm2 cd2 ct2 oc3 kV3 dc3 pm3 cd3 ct3 oc4 kV4 dc4 pm4 cd4 ct4 oc5 kV5 dc5 pm5 cd5 ct5 oc6 kV6 dc6 pm6 cd6 ct6 oc7 kV7 dc7 pm7 cd7 ct7 oc8 kV8 dc8 pm8 cd8 ct8 oc9 kV9 dc9 pm9 cd9 ct9 oc10 kV10 dc10 pm10 cd10 ct10 oc11 kV11 dc11 pm11 cd11 ct11 oc12 kV12 dc12 pm12 cd12 ct12 oc13 kV13 dc13 pm13 cd13 ct13 oc14 kV14 dc14 pm14 cd14 ct14 oc15 kV15 dc15 pm15 cd15 ct15 oc16 kV16 dc16 pm16 cd16 ct16 oc17 kV17 dc17 pm17 cd17 ct17 oc18 kV18 dc18 pm18 cd18 ct18 oc19 kV19 dc19 pm19 cd19 ct19 oc20 kV20 dc20 pm20 cd20 ct20 oc21 kV21 dc21 pm21 cd21 ct21 oc22 kV22 dc22 pm22 cd22 ct22 oc23 kV23 dc23 pm23 cd23 ct23 oc24 kV24 dc24 pm24 cd24 ct24 oc25 kV25 dc25 pm25 cd25 ct25 oc26 kV26 dc26 pm26 cd26 ct26 oc27 kV27 dc27 pm27 cd27 ct27 oc28 kV28 dc28 pm28 cd28 ct28 oc29 kV29 dc29 pm29 cd29 ct29 : Value}
    (a1 : PySem.W.nsIn K mainGlobals "is_whole" = some (some (.ref f1))) (l1 : K.lookup f1 = some ⟨oc1, od1, .func (PySem.W.fnOf "is_whole" "is_whole" (defArgs st_is_whole) (defBody st_is_whole) (defScope st_is_whole) .none kV1 dc1 pm1 an1 cd1 ct1), sl1⟩) (c1 : PySem.W.codeIn K cd1 "is_whole" = true) (k1 : PySem.W.keepIn K (.ref f1) = true)
    (a2 : PySem.W.nsIn K mainGlobals "is_word" = some (some (.ref f2))) (l2 : K.lookup f2 = some ⟨oc2, od2, .func (PySem.W.fnOf "is_word" "is_word" (defArgs st_is_word) (defBody st_is_word) (defScope st_is_word) .none kV2 dc2 pm2 an2 cd2 ct2), sl2⟩) (c2 : PySem.W.codeIn K cd2 "is_word" = true) (k2 : PySem.W.keepIn K (.ref f2) = true)
    (a3 : PySem.W.nsIn K mainGlobals "are_names" = some (some (.ref f3))) (l3 : K.lookup f3 = some ⟨oc3, od3, .func (PySem.W.fnOf "are_names" "are_names" (defArgs st_are_names) (defBody st_are_names) (defScope st_are_names) .none kV3 dc3 pm3 an3 cd3 ct3), sl3⟩) (c3 : PySem.W.codeIn K cd3 "are_names" = true) (k3 : PySem.W.keepIn K (.ref f3) = true)
    (a4 : PySem.W.nsIn K mainGlobals "are_figures" = some (some (.ref f4))) (l4 : K.lookup f4 = some ⟨oc4, od4, .func (PySem.W.fnOf "are_figures" "are_figures" (defArgs st_are_figures) (defBody st_are_figures) (defScope st_are_figures) .none kV4 dc4 pm4 an4 cd4 ct4), sl4⟩) (c4 : PySem.W.codeIn K cd4 "are_figures" = true) (k4 : PySem.W.keepIn K (.ref f4) = true)
    (a5 : PySem.W.nsIn K mainGlobals "is_run" = some (some (.ref f5))) (l5 : K.lookup f5 = some ⟨oc5, od5, .func (PySem.W.fnOf "is_run" "is_run" (defArgs st_is_run) (defBody st_is_run) (defScope st_is_run) .none kV5 dc5 pm5 an5 cd5 ct5), sl5⟩) (c5 : PySem.W.codeIn K cd5 "is_run" = true) (k5 : PySem.W.keepIn K (.ref f5) = true)
    (a6 : PySem.W.nsIn K mainGlobals "need_deal" = some (some (.ref f6))) (l6 : K.lookup f6 = some ⟨oc6, od6, .func (PySem.W.fnOf "need_deal" "need_deal" (defArgs st_need_deal) (defBody st_need_deal) (defScope st_need_deal) .none kV6 dc6 pm6 an6 cd6 ct6), sl6⟩) (c6 : PySem.W.codeIn K cd6 "need_deal" = true) (k6 : PySem.W.keepIn K (.ref f6) = true)
    (a7 : PySem.W.nsIn K mainGlobals "need_number" = some (some (.ref f7))) (l7 : K.lookup f7 = some ⟨oc7, od7, .func (PySem.W.fnOf "need_number" "need_number" (defArgs st_need_number) (defBody st_need_number) (defScope st_need_number) .none kV7 dc7 pm7 an7 cd7 ct7), sl7⟩) (c7 : PySem.W.codeIn K cd7 "need_number" = true) (k7 : PySem.W.keepIn K (.ref f7) = true)
    (a8 : PySem.W.nsIn K mainGlobals "count_in" = some (some (.ref f8))) (l8 : K.lookup f8 = some ⟨oc8, od8, .func (PySem.W.fnOf "count_in" "count_in" (defArgs st_count_in) (defBody st_count_in) (defScope st_count_in) .none kV8 dc8 pm8 an8 cd8 ct8), sl8⟩) (c8 : PySem.W.codeIn K cd8 "count_in" = true) (k8 : PySem.W.keepIn K (.ref f8) = true)
    (a9 : PySem.W.nsIn K mainGlobals "parts_of" = some (some (.ref f9))) (l9 : K.lookup f9 = some ⟨oc9, od9, .func (PySem.W.fnOf "parts_of" "parts_of" (defArgs st_parts_of) (defBody st_parts_of) (defScope st_parts_of) .none kV9 dc9 pm9 an9 cd9 ct9), sl9⟩) (c9 : PySem.W.codeIn K cd9 "parts_of" = true) (k9 : PySem.W.keepIn K (.ref f9) = true)
    (a10 : PySem.W.nsIn K mainGlobals "count_by" = some (some (.ref f10))) (l10 : K.lookup f10 = some ⟨oc10, od10, .func (PySem.W.fnOf "count_by" "count_by" (defArgs st_count_by) (defBody st_count_by) (defScope st_count_by) .none kV10 dc10 pm10 an10 cd10 ct10), sl10⟩) (c10 : PySem.W.codeIn K cd10 "count_by" = true) (k10 : PySem.W.keepIn K (.ref f10) = true)
    (a11 : PySem.W.nsIn K mainGlobals "has_in" = some (some (.ref f11))) (l11 : K.lookup f11 = some ⟨oc11, od11, .func (PySem.W.fnOf "has_in" "has_in" (defArgs st_has_in) (defBody st_has_in) (defScope st_has_in) .none kV11 dc11 pm11 an11 cd11 ct11), sl11⟩) (c11 : PySem.W.codeIn K cd11 "has_in" = true) (k11 : PySem.W.keepIn K (.ref f11) = true)
    (a12 : PySem.W.nsIn K mainGlobals "place_in" = some (some (.ref f12))) (l12 : K.lookup f12 = some ⟨oc12, od12, .func (PySem.W.fnOf "place_in" "place_in" (defArgs st_place_in) (defBody st_place_in) (defScope st_place_in) .none kV12 dc12 pm12 an12 cd12 ct12), sl12⟩) (c12 : PySem.W.codeIn K cd12 "place_in" = true) (k12 : PySem.W.keepIn K (.ref f12) = true)
    (a13 : PySem.W.nsIn K mainGlobals "name_in" = some (some (.ref f13))) (l13 : K.lookup f13 = some ⟨oc13, od13, .func (PySem.W.fnOf "name_in" "name_in" (defArgs st_name_in) (defBody st_name_in) (defScope st_name_in) .none kV13 dc13 pm13 an13 cd13 ct13), sl13⟩) (c13 : PySem.W.codeIn K cd13 "name_in" = true) (k13 : PySem.W.keepIn K (.ref f13) = true)
    (a14 : PySem.W.nsIn K mainGlobals "name_at" = some (some (.ref f14))) (l14 : K.lookup f14 = some ⟨oc14, od14, .func (PySem.W.fnOf "name_at" "name_at" (defArgs st_name_at) (defBody st_name_at) (defScope st_name_at) .none kV14 dc14 pm14 an14 cd14 ct14), sl14⟩) (c14 : PySem.W.codeIn K cd14 "name_at" = true) (k14 : PySem.W.keepIn K (.ref f14) = true)
    (a15 : PySem.W.nsIn K mainGlobals "row_part" = some (some (.ref f15))) (l15 : K.lookup f15 = some ⟨oc15, od15, .func (PySem.W.fnOf "row_part" "row_part" (defArgs st_row_part) (defBody st_row_part) (defScope st_row_part) .none kV15 dc15 pm15 an15 cd15 ct15), sl15⟩) (c15 : PySem.W.codeIn K cd15 "row_part" = true) (k15 : PySem.W.keepIn K (.ref f15) = true)
    (a16 : PySem.W.nsIn K mainGlobals "has" = some (some (.ref f16))) (l16 : K.lookup f16 = some ⟨oc16, od16, .func (PySem.W.fnOf "has" "has" (defArgs st_has) (defBody st_has) (defScope st_has) .none kV16 dc16 pm16 an16 cd16 ct16), sl16⟩) (c16 : PySem.W.codeIn K cd16 "has" = true) (k16 : PySem.W.keepIn K (.ref f16) = true)
    (a17 : PySem.W.nsIn K mainGlobals "gets" = some (some (.ref f17))) (l17 : K.lookup f17 = some ⟨oc17, od17, .func (PySem.W.fnOf "gets" "gets" (defArgs st_gets) (defBody st_gets) (defScope st_gets) .none kV17 dc17 pm17 an17 cd17 ct17), sl17⟩) (c17 : PySem.W.codeIn K cd17 "gets" = true) (k17 : PySem.W.keepIn K (.ref f17) = true)
    (a18 : PySem.W.nsIn K mainGlobals "run_at" = some (some (.ref f18))) (l18 : K.lookup f18 = some ⟨oc18, od18, .func (PySem.W.fnOf "run_at" "run_at" (defArgs st_run_at) (defBody st_run_at) (defScope st_run_at) .none kV18 dc18 pm18 an18 cd18 ct18), sl18⟩) (c18 : PySem.W.codeIn K cd18 "run_at" = true) (k18 : PySem.W.keepIn K (.ref f18) = true)
    (a19 : PySem.W.nsIn K mainGlobals "_law_begun" = some (some (.ref f19))) (l19 : K.lookup f19 = some ⟨oc19, od19, .func (PySem.W.fnOf "_law_begun" "_law_begun" (defArgs st__law_begun) (defBody st__law_begun) (defScope st__law_begun) .none kV19 dc19 pm19 an19 cd19 ct19), sl19⟩) (c19 : PySem.W.codeIn K cd19 "_law_begun" = true) (k19 : PySem.W.keepIn K (.ref f19) = true)
    (a20 : PySem.W.nsIn K mainGlobals "_law_draw" = some (some (.ref f20))) (l20 : K.lookup f20 = some ⟨oc20, od20, .func (PySem.W.fnOf "_law_draw" "_law_draw" (defArgs st__law_draw) (defBody st__law_draw) (defScope st__law_draw) .none kV20 dc20 pm20 an20 cd20 ct20), sl20⟩) (c20 : PySem.W.codeIn K cd20 "_law_draw" = true) (k20 : PySem.W.keepIn K (.ref f20) = true)
    (a21 : PySem.W.nsIn K mainGlobals "_law_of" = some (some (.ref f21))) (l21 : K.lookup f21 = some ⟨oc21, od21, .func (PySem.W.fnOf "_law_of" "_law_of" (defArgs st__law_of) (defBody st__law_of) (defScope st__law_of) .none kV21 dc21 pm21 an21 cd21 ct21), sl21⟩) (c21 : PySem.W.codeIn K cd21 "_law_of" = true) (k21 : PySem.W.keepIn K (.ref f21) = true)
    (a22 : PySem.W.nsIn K mainGlobals "_law_people" = some (some (.ref f22))) (l22 : K.lookup f22 = some ⟨oc22, od22, .func (PySem.W.fnOf "_law_people" "_law_people" (defArgs st__law_people) (defBody st__law_people) (defScope st__law_people) .none kV22 dc22 pm22 an22 cd22 ct22), sl22⟩) (c22 : PySem.W.codeIn K cd22 "_law_people" = true) (k22 : PySem.W.keepIn K (.ref f22) = true)
    (a23 : PySem.W.nsIn K mainGlobals "_law_figures" = some (some (.ref f23))) (l23 : K.lookup f23 = some ⟨oc23, od23, .func (PySem.W.fnOf "_law_figures" "_law_figures" (defArgs st__law_figures) (defBody st__law_figures) (defScope st__law_figures) .none kV23 dc23 pm23 an23 cd23 ct23), sl23⟩) (c23 : PySem.W.codeIn K cd23 "_law_figures" = true) (k23 : PySem.W.keepIn K (.ref f23) = true)
    (a24 : PySem.W.nsIn K mainGlobals "_law_runs" = some (some (.ref f24))) (l24 : K.lookup f24 = some ⟨oc24, od24, .func (PySem.W.fnOf "_law_runs" "_law_runs" (defArgs st__law_runs) (defBody st__law_runs) (defScope st__law_runs) .none kV24 dc24 pm24 an24 cd24 ct24), sl24⟩) (c24 : PySem.W.codeIn K cd24 "_law_runs" = true) (k24 : PySem.W.keepIn K (.ref f24) = true)
    (a25 : PySem.W.nsIn K mainGlobals "_law_deal" = some (some (.ref f25))) (l25 : K.lookup f25 = some ⟨oc25, od25, .func (PySem.W.fnOf "_law_deal" "_law_deal" (defArgs st__law_deal) (defBody st__law_deal) (defScope st__law_deal) .none kV25 dc25 pm25 an25 cd25 ct25), sl25⟩) (c25 : PySem.W.codeIn K cd25 "_law_deal" = true) (k25 : PySem.W.keepIn K (.ref f25) = true)
    (a26 : PySem.W.nsIn K mainGlobals "_law_row" = some (some (.ref f26))) (l26 : K.lookup f26 = some ⟨oc26, od26, .func (PySem.W.fnOf "_law_row" "_law_row" (defArgs st__law_row) (defBody st__law_row) (defScope st__law_row) .none kV26 dc26 pm26 an26 cd26 ct26), sl26⟩) (c26 : PySem.W.codeIn K cd26 "_law_row" = true) (k26 : PySem.W.keepIn K (.ref f26) = true)
    (a27 : PySem.W.nsIn K mainGlobals "_law_places" = some (some (.ref f27))) (l27 : K.lookup f27 = some ⟨oc27, od27, .func (PySem.W.fnOf "_law_places" "_law_places" (defArgs st__law_places) (defBody st__law_places) (defScope st__law_places) .none kV27 dc27 pm27 an27 cd27 ct27), sl27⟩) (c27 : PySem.W.codeIn K cd27 "_law_places" = true) (k27 : PySem.W.keepIn K (.ref f27) = true)
    (a28 : PySem.W.nsIn K mainGlobals "_law_right" = some (some (.ref f28))) (l28 : K.lookup f28 = some ⟨oc28, od28, .func (PySem.W.fnOf "_law_right" "_law_right" (defArgs st__law_right) (defBody st__law_right) (defScope st__law_right) .none kV28 dc28 pm28 an28 cd28 ct28), sl28⟩) (c28 : PySem.W.codeIn K cd28 "_law_right" = true) (k28 : PySem.W.keepIn K (.ref f28) = true)
    (a29 : PySem.W.nsIn K mainGlobals "law" = some (some (.ref f29))) (l29 : K.lookup f29 = some ⟨oc29, od29, .func (PySem.W.fnOf "law" "law" (defArgs st_law) (defBody st_law) (defScope st_law) .none kV29 dc29 pm29 an29 cd29 ct29), sl29⟩) (c29 : PySem.W.codeIn K cd29 "law" = true) (k29 : PySem.W.keepIn K (.ref f29) = true)
    {t1} {t2} {t3} {t4} {t5} {t6} {t7} {t8} {t9}
    (g1 : PySem.W.nsIn K mainGlobals "MOST_NAMES" = some (some (.int 6 t1)))
    (g2 : PySem.W.nsIn K mainGlobals "MOST_SIGNS" = some (some (.int 6 t2)))
    (g3 : PySem.W.nsIn K mainGlobals "MOST_COINS" = some (some (.int 1000000000000 t3)))
    (g4 : PySem.W.nsIn K mainGlobals "MOST_FIGURES" = some (some (.int 400 t4)))
    (g5 : PySem.W.nsIn K mainGlobals "MOST_RUNS" = some (some (.int 60 t5)))
    (g6 : PySem.W.nsIn K mainGlobals "MOST_NUMBER" = some (some (.int 1000000000000000000000000000000 t6)))
    (g7 : PySem.W.nsIn K mainGlobals "MOST_ROW" = some (some (.int 1000 t7)))
    (g8 : PySem.W.nsIn K mainGlobals "LETTERS" = some (some (.str "abcdefghijklmnopqrstuvwxyz" t8)))
    (g9 : PySem.W.nsIn K mainGlobals "DIGITS" = some (some (.str "0123456789" t9)))
    (z1 : PySem.W.nsIn K mainGlobals "all" = some none)
    (z2 : PySem.W.nsIn K mainGlobals "bool" = some none)
    (z3 : PySem.W.nsIn K mainGlobals "divmod" = some none)
    (z4 : PySem.W.nsIn K mainGlobals "enumerate" = some none)
    (z5 : PySem.W.nsIn K mainGlobals "int" = some none)
    (z6 : PySem.W.nsIn K mainGlobals "isinstance" = some none)
    (z7 : PySem.W.nsIn K mainGlobals "len" = some none)
    (z8 : PySem.W.nsIn K mainGlobals "list" = some none)
    (z9 : PySem.W.nsIn K mainGlobals "min" = some none)
    (z10 : PySem.W.nsIn K mainGlobals "range" = some none)
    (z11 : PySem.W.nsIn K mainGlobals "repr" = some none)
    (z12 : PySem.W.nsIn K mainGlobals "str" = some none)
    (z13 : PySem.W.nsIn K mainGlobals "sum" = some none)
    (z14 : PySem.W.nsIn K mainGlobals "tuple" = some none)
    (z15 : PySem.W.nsIn K mainGlobals "zip" = some none)
    : ∃ fd : FuncData, (∀ (s : Shared) (v : Value), BindsTo s fd ⟨[v], []⟩ [("_law_script", v)]) ∧ ∀ base : Heap, K.In base → base.Ns mainGlobals mg → FnG l.prog w K mg base CX0 13 fa fd ["_law_script"] (spL K) := by
  have e := hfa.symm.trans (PySem.W.mg_of X G a29)
  cases e
  have F1 := fun_mk (st := st_is_whole) l1 c1 k1
  have D1 : Dn K mg "is_whole" st_is_whole ["thing", "least", "most"] _ _ := ⟨F1, PySem.W.mg_of X G a1, F1.binds fun _ _ _ _ _ _ us hl => match us, hl with | [_, _, _], _ => rfl⟩
  have F2 := fun_mk (st := st_is_word) l2 c2 k2
  have D2 : Dn K mg "is_word" st_is_word ["thing"] _ _ := ⟨F2, PySem.W.mg_of X G a2, F2.binds fun _ _ _ _ _ _ us hl => match us, hl with | [_], _ => rfl⟩
  have F3 := fun_mk (st := st_are_names) l3 c3 k3
  have D3 : Dn K mg "are_names" st_are_names ["thing"] _ _ := ⟨F3, PySem.W.mg_of X G a3, F3.binds fun _ _ _ _ _ _ us hl => match us, hl with | [_], _ => rfl⟩
  have F4 := fun_mk (st := st_are_figures) l4 c4 k4
  have D4 : Dn K mg "are_figures" st_are_figures ["many", "thing"] _ _ := ⟨F4, PySem.W.mg_of X G a4, F4.binds fun _ _ _ _ _ _ us hl => match us, hl with | [_, _], _ => rfl⟩
  have F5 := fun_mk (st := st_is_run) l5 c5 k5
  have D5 : Dn K mg "is_run" st_is_run ["many", "thing", "is_last"] _ _ := ⟨F5, PySem.W.mg_of X G a5, F5.binds fun _ _ _ _ _ _ us hl => match us, hl with | [_, _, _], _ => rfl⟩
  have F6 := fun_mk (st := st_need_deal) l6 c6 k6
  have D6 : Dn K mg "need_deal" st_need_deal ["thing"] _ _ := ⟨F6, PySem.W.mg_of X G a6, F6.binds fun _ _ _ _ _ _ us hl => match us, hl with | [_], _ => rfl⟩
  have F7 := fun_mk (st := st_need_number) l7 c7 k7
  have D7 : Dn K mg "need_number" st_need_number ["thing"] _ _ := ⟨F7, PySem.W.mg_of X G a7, F7.binds fun _ _ _ _ _ _ us hl => match us, hl with | [_], _ => rfl⟩
  have F8 := fun_mk (st := st_count_in) l8 c8 k8
  have D8 : Dn K mg "count_in" st_count_in ["figures", "figure", "coins"] _ _ := ⟨F8, PySem.W.mg_of X G a8, F8.binds fun _ _ _ _ _ _ us hl => match us, hl with | [_, _, _], _ => rfl⟩
  have F9 := fun_mk (st := st_parts_of) l9 c9 k9
  have D9 : Dn K mg "parts_of" st_parts_of ["runs", "coins"] _ _ := ⟨F9, PySem.W.mg_of X G a9, F9.binds fun _ _ _ _ _ _ us hl => match us, hl with | [_, _], _ => rfl⟩
  have F10 := fun_mk (st := st_count_by) l10 c10 k10
  have D10 : Dn K mg "count_by" st_count_by ["runs", "figure", "coins"] _ _ := ⟨F10, PySem.W.mg_of X G a10, F10.binds fun _ _ _ _ _ _ us hl => match us, hl with | [_, _, _], _ => rfl⟩
  have F11 := fun_mk (st := st_has_in) l11 c11 k11
  have D11 : Dn K mg "has_in" st_has_in ["deal", "coins"] _ _ := ⟨F11, PySem.W.mg_of X G a11, F11.binds fun _ _ _ _ _ _ us hl => match us, hl with | [_, _], _ => rfl⟩
  have F12 := fun_mk (st := st_place_in) l12 c12 k12
  have D12 : Dn K mg "place_in" st_place_in ["runs", "coin"] _ _ := ⟨F12, PySem.W.mg_of X G a12, F12.binds fun _ _ _ _ _ _ us hl => match us, hl with | [_, _], _ => rfl⟩
  have F13 := fun_mk (st := st_name_in) l13 c13 k13
  have D13 : Dn K mg "name_in" st_name_in ["deal", "coin"] _ _ := ⟨F13, PySem.W.mg_of X G a13, F13.binds fun _ _ _ _ _ _ us hl => match us, hl with | [_, _], _ => rfl⟩
  have F14 := fun_mk (st := st_name_at) l14 c14 k14
  have D14 : Dn K mg "name_at" st_name_at ["deal", "coin"] _ _ := ⟨F14, PySem.W.mg_of X G a14, F14.binds fun _ _ _ _ _ _ us hl => match us, hl with | [_, _], _ => rfl⟩
  have F15 := fun_mk (st := st_row_part) l15 c15 k15
  have D15 : Dn K mg "row_part" st_row_part ["deal", "begin", "size"] _ _ := ⟨F15, PySem.W.mg_of X G a15, F15.binds fun _ _ _ _ _ _ us hl => match us, hl with | [_, _, _], _ => rfl⟩
  have F16 := fun_mk (st := st_has) l16 c16 k16
  have D16 : Dn K mg "has" st_has ["deal", "coins"] _ _ := ⟨F16, PySem.W.mg_of X G a16, F16.binds fun _ _ _ _ _ _ us hl => match us, hl with | [_, _], _ => rfl⟩
  have F17 := fun_mk (st := st_gets) l17 c17 k17
  have D17 : Dn K mg "gets" st_gets ["deal", "behind", "coins"] _ _ := ⟨F17, PySem.W.mg_of X G a17, F17.binds fun _ _ _ _ _ _ us hl => match us, hl with | [_, _, _], _ => rfl⟩
  have F18 := fun_mk (st := st_run_at) l18 c18 k18
  have D18 : Dn K mg "run_at" st_run_at ["deal", "coin"] _ _ := ⟨F18, PySem.W.mg_of X G a18, F18.binds fun _ _ _ _ _ _ us hl => match us, hl with | [_, _], _ => rfl⟩
  have F19 := fun_mk (st := st__law_begun) l19 c19 k19
  have D19 : Dn K mg "_law_begun" st__law_begun ["_law_script"] _ _ := ⟨F19, PySem.W.mg_of X G a19, F19.binds fun _ _ _ _ _ _ us hl => match us, hl with | [_], _ => rfl⟩
  have F20 := fun_mk (st := st__law_draw) l20 c20 k20
  have D20 : Dn K mg "_law_draw" st__law_draw ["_law_m", "_law_many"] _ _ := ⟨F20, PySem.W.mg_of X G a20, F20.binds fun _ _ _ _ _ _ us hl => match us, hl with | [_, _], _ => rfl⟩
  have F21 := fun_mk (st := st__law_of) l21 c21 k21
  have D21 : Dn K mg "_law_of" st__law_of ["_law_m", "_law_some"] _ _ := ⟨F21, PySem.W.mg_of X G a21, F21.binds fun _ _ _ _ _ _ us hl => match us, hl with | [_, _], _ => rfl⟩
  have F22 := fun_mk (st := st__law_people) l22 c22 k22
  have D22 : Dn K mg "_law_people" st__law_people ["_law_m", "_law_most"] _ _ := ⟨F22, PySem.W.mg_of X G a22, F22.binds fun _ _ _ _ _ _ us hl => match us, hl with | [_, _], _ => rfl⟩
  have F23 := fun_mk (st := st__law_figures) l23 c23 k23
  have D23 : Dn K mg "_law_figures" st__law_figures ["_law_m", "_law_total", "_law_long"] _ _ := ⟨F23, PySem.W.mg_of X G a23, F23.binds fun _ _ _ _ _ _ us hl => match us, hl with | [_, _, _], _ => rfl⟩
  have F24 := fun_mk (st := st__law_runs) l24 c24 k24
  have D24 : Dn K mg "_law_runs" st__law_runs ["_law_m", "_law_total", "_law_many", "_law_top", "_law_long"] _ _ := ⟨F24, PySem.W.mg_of X G a24, F24.binds fun _ _ _ _ _ _ us hl => match us, hl with | [_, _, _, _, _], _ => rfl⟩
  have F25 := fun_mk (st := st__law_deal) l25 c25 k25
  have D25 : Dn K mg "_law_deal" st__law_deal ["_law_m", "_law_most", "_law_many", "_law_top", "_law_long"] _ _ := ⟨F25, PySem.W.mg_of X G a25, F25.binds fun _ _ _ _ _ _ us hl => match us, hl with | [_, _, _, _, _], _ => rfl⟩
  have F26 := fun_mk (st := st__law_row) l26 c26 k26
  have D26 : Dn K mg "_law_row" st__law_row ["_law_runs_here", "_law_size"] _ _ := ⟨F26, PySem.W.mg_of X G a26, F26.binds fun _ _ _ _ _ _ us hl => match us, hl with | [_, _], _ => rfl⟩
  have F27 := fun_mk (st := st__law_places) l27 c27 k27
  have D27 : Dn K mg "_law_places" st__law_places ["_law_runs_here", "_law_size"] _ _ := ⟨F27, PySem.W.mg_of X G a27, F27.binds fun _ _ _ _ _ _ us hl => match us, hl with | [_, _], _ => rfl⟩
  have F28 := fun_mk (st := st__law_right) l28 c28 k28
  have D28 : Dn K mg "_law_right" st__law_right ["_law_m", "_law_pact"] _ _ := ⟨F28, PySem.W.mg_of X G a28, F28.binds fun _ _ _ _ _ _ us hl => match us, hl with | [_, _], _ => rfl⟩
  have F29 := fun_mk (st := st_law) l29 c29 k29
  have D29 : Dn K mg "law" st_law ["_law_script"] _ _ := ⟨F29, PySem.W.mg_of X G a29, F29.binds fun _ _ _ _ _ _ us hl => match us, hl with | [_], _ => rfl⟩
  have Bt : BtOk mg bts := (bt_cons (PySem.W.mg_none_of X G z1) (bt_cons (PySem.W.mg_none_of X G z2) (bt_cons (PySem.W.mg_none_of X G z3) (bt_cons (PySem.W.mg_none_of X G z4) (bt_cons (PySem.W.mg_none_of X G z5) (bt_cons (PySem.W.mg_none_of X G z6) (bt_cons (PySem.W.mg_none_of X G z7) (bt_cons (PySem.W.mg_none_of X G z8) (bt_cons (PySem.W.mg_none_of X G z9) (bt_cons (PySem.W.mg_none_of X G z10) (bt_cons (PySem.W.mg_none_of X G z11) (bt_cons (PySem.W.mg_none_of X G z12) (bt_cons (PySem.W.mg_none_of X G z13) (bt_cons (PySem.W.mg_none_of X G z14) (bt_cons (PySem.W.mg_none_of X G z15) bt_nil)))))))))))))))
  have Gd : GdOk K mg glb := (gd_if (v := .int 6) (PySem.W.mg_of X G g1) ⟨_, rfl⟩ (fun _ => .int _) (gd_if (v := .int 6) (PySem.W.mg_of X G g2) ⟨_, rfl⟩ (fun _ => .int _) (gd_if (v := .int 1000000000000) (PySem.W.mg_of X G g3) ⟨_, rfl⟩ (fun _ => .int _) (gd_if (v := .int 400) (PySem.W.mg_of X G g4) ⟨_, rfl⟩ (fun _ => .int _) (gd_if (v := .int 60) (PySem.W.mg_of X G g5) ⟨_, rfl⟩ (fun _ => .int _) (gd_if (v := .int 1000000000000000000000000000000) (PySem.W.mg_of X G g6) ⟨_, rfl⟩ (fun _ => .int _) (gd_if (v := .int 1000) (PySem.W.mg_of X G g7) ⟨_, rfl⟩ (fun _ => .int _) (gd_if (v := .str "abcdefghijklmnopqrstuvwxyz") (PySem.W.mg_of X G g8) ⟨_, rfl⟩ (fun _ => .str _) (gd_if (v := .str "0123456789") (PySem.W.mg_of X G g9) ⟨_, rfl⟩ (fun _ => .str _) gd_nil)))))))))
  exact ⟨PySem.W.fnOf "law" "law" (defArgs st_law) (defBody st_law) (defScope st_law) .none kV29 dc29 pm29 an29 cd29 ct29, fun s v => .of_eq rfl, fun base _ _ => law_ok (n := 12) (wf := 0) F29 sc_law rfl rfl rfl (bd_law (all_ok Bt Gd D1 D2 D3 D4 D5 D6 D7 D8 D9 D10 D11 D12 D13 D14 D15 D16 D17 D18 D19 D20 D21 D22 D23 D24 D25 D26 D27 D28 D29 12) Bt Gd _) Rm.law_pure⟩
end Rv
open PySem PySem.W PyProof.Rows
set_option maxHeartbeats 0 in
theorem PySem.Challenge.cw_stairpay_k03_whole_rows_holds : PySem.Challenge.rw_stairpay_k03_whole_rows.Holds := by
  w_on; o_law; k_head; (case hw => w_witness2)
  k_fill
  refine Rv.walk_G (l := PySem.Challenge.rw_stairpay_k03_whole_rows) (n := 63) (k := 13) (x := "_law_script") (cx := fun _ => L2.CX0) (sp := fun w => Rv.spL _) rfl (by decide) rfl ⟨⟨rfl, by decide, by decide⟩, rfl⟩ (fun w h Y => PySem.W.kIn_of Y) ?F (fun _ _ a ns hl hS => ⟨a, ns, rfl, hS, hl, fun _ => rfl⟩) (fun _ _ _ _ _ h => h)
  case F =>
    intro w mg fa h KX G hmg
    refine' Rv.all_mk KX G hmg ?a1 ?l1 ?c1 ?k1 ?a2 ?l2 ?c2 ?k2 ?a3 ?l3 ?c3 ?k3 ?a4 ?l4 ?c4 ?k4 ?a5 ?l5 ?c5 ?k5 ?a6 ?l6 ?c6 ?k6 ?a7 ?l7 ?c7 ?k7 ?a8 ?l8 ?c8 ?k8 ?a9 ?l9 ?c9 ?k9 ?a10 ?l10 ?c10 ?k10 ?a11 ?l11 ?c11 ?k11 ?a12 ?l12 ?c12 ?k12 ?a13 ?l13 ?c13 ?k13 ?a14 ?l14 ?c14 ?k14 ?a15 ?l15 ?c15 ?k15 ?a16 ?l16 ?c16 ?k16 ?a17 ?l17 ?c17 ?k17 ?a18 ?l18 ?c18 ?k18 ?a19 ?l19 ?c19 ?k19 ?a20 ?l20 ?c20 ?k20 ?a21 ?l21 ?c21 ?k21 ?a22 ?l22 ?c22 ?k22 ?a23 ?l23 ?c23 ?k23 ?a24 ?l24 ?c24 ?k24 ?a25 ?l25 ?c25 ?k25 ?a26 ?l26 ?c26 ?k26 ?a27 ?l27 ?c27 ?k27 ?a28 ?l28 ?c28 ?k28 ?a29 ?l29 ?c29 ?k29 ?g1 ?g2 ?g3 ?g4 ?g5 ?g6 ?g7 ?g8 ?g9 ?z1 ?z2 ?z3 ?z4 ?z5 ?z6 ?z7 ?z8 ?z9 ?z10 ?z11 ?z12 ?z13 ?z14 ?z15
    (case a1 => k_is)
    (case l1 => k_is)
    (case c1 => k_is)
    (case k1 => k_is)
    (case a2 => k_is)
    (case l2 => k_is)
    (case c2 => k_is)
    (case k2 => k_is)
    (case a3 => k_is)
    (case l3 => k_is)
    (case c3 => k_is)
    (case k3 => k_is)
    (case a4 => k_is)
    (case l4 => k_is)
    (case c4 => k_is)
    (case k4 => k_is)
    (case a5 => k_is)
    (case l5 => k_is)
    (case c5 => k_is)
    (case k5 => k_is)
    (case a6 => k_is)
    (case l6 => k_is)
    (case c6 => k_is)
    (case k6 => k_is)
    (case a7 => k_is)
    (case l7 => k_is)
    (case c7 => k_is)
    (case k7 => k_is)
    (case a8 => k_is)
    (case l8 => k_is)
    (case c8 => k_is)
    (case k8 => k_is)
    (case a9 => k_is)
    (case l9 => k_is)
    (case c9 => k_is)
    (case k9 => k_is)
    (case a10 => k_is)
    (case l10 => k_is)
    (case c10 => k_is)
    (case k10 => k_is)
    (case a11 => k_is)
    (case l11 => k_is)
    (case c11 => k_is)
    (case k11 => k_is)
    (case a12 => k_is)
    (case l12 => k_is)
    (case c12 => k_is)
    (case k12 => k_is)
    (case a13 => k_is)
    (case l13 => k_is)
    (case c13 => k_is)
    (case k13 => k_is)
    (case a14 => k_is)
    (case l14 => k_is)
    (case c14 => k_is)
    (case k14 => k_is)
    (case a15 => k_is)
    (case l15 => k_is)
    (case c15 => k_is)
    (case k15 => k_is)
    (case a16 => k_is)
    (case l16 => k_is)
    (case c16 => k_is)
    (case k16 => k_is)
    (case a17 => k_is)
    (case l17 => k_is)
    (case c17 => k_is)
    (case k17 => k_is)
    (case a18 => k_is)
    (case l18 => k_is)
    (case c18 => k_is)
    (case k18 => k_is)
    (case a19 => k_is)
    (case l19 => k_is)
    (case c19 => k_is)
    (case k19 => k_is)
    (case a20 => k_is)
    (case l20 => k_is)
    (case c20 => k_is)
    (case k20 => k_is)
    (case a21 => k_is)
    (case l21 => k_is)
    (case c21 => k_is)
    (case k21 => k_is)
    (case a22 => k_is)
    (case l22 => k_is)
    (case c22 => k_is)
    (case k22 => k_is)
    (case a23 => k_is)
    (case l23 => k_is)
    (case c23 => k_is)
    (case k23 => k_is)
    (case a24 => k_is)
    (case l24 => k_is)
    (case c24 => k_is)
    (case k24 => k_is)
    (case a25 => k_is)
    (case l25 => k_is)
    (case c25 => k_is)
    (case k25 => k_is)
    (case a26 => k_is)
    (case l26 => k_is)
    (case c26 => k_is)
    (case k26 => k_is)
    (case a27 => k_is)
    (case l27 => k_is)
    (case c27 => k_is)
    (case k27 => k_is)
    (case a28 => k_is)
    (case l28 => k_is)
    (case c28 => k_is)
    (case k28 => k_is)
    (case a29 => k_is)
    (case l29 => k_is)
    (case c29 => k_is)
    (case k29 => k_is)
    (case g1 => k_is)
    (case g2 => k_is)
    (case g3 => k_is)
    (case g4 => k_is)
    (case g5 => k_is)
    (case g6 => k_is)
    (case g7 => k_is)
    (case g8 => k_is)
    (case g9 => k_is)
    (case z1 => k_is)
    (case z2 => k_is)
    (case z3 => k_is)
    (case z4 => k_is)
    (case z5 => k_is)
    (case z6 => k_is)
    (case z7 => k_is)
    (case z8 => k_is)
    (case z9 => k_is)
    (case z10 => k_is)
    (case z11 => k_is)
    (case z12 => k_is)
    (case z13 => k_is)
    (case z14 => k_is)
    (case z15 => k_is)

