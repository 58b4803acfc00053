import PyProof.Rows.All
import PySem.Challenge.RW_hushworks_k21_whole_numbers
import Wide.All
import OpenK.AllK
import Wide.FinOn
import HandS.ForMost
import HandS.Wide
import HandS.Exc
import HandS.ExcOwn
import HandS.WordsExc
import HandS.TupAny
import HandS.IsInst
import HandS.Flow
import HandS.RaiseMore
import PyProof.StrLawsRepr
import HandS.Style
import HandS.Zip
import HandS.Defaults
import HandS.Ends
import HandS.HeadEnd
import KE.KStateDown
import HandS.More
import HandS.Head0
import HandS.Head1
import HandS.Head2
import HandS.HeadHook1
import HandS.HeadHook2
import HandS.HeadHook4
set_option Elab.async false
set_option linter.all false
set_option maxRecDepth 100000
set_option maxHeartbeats 0
set_option exponentiation.threshold 10000
/-! Mn1: plain data, an intermediate form of defs, and its evaluator. -/
namespace Mn
open PySem

/-- data that stands still -/
inductive P where
  | non | bl (b : Bool) | int (i : Int) | str (x : Str)
  | tup (ps : List P) | lst (ps : List P)
  | fn (f : Nat) | scr (ns : List Int)
  deriving Inhabited

/-- a value: data, or the n-th cell of the store -/
inductive D where
  | p (x : P) | ref (n : Nat)
  deriving Inhabited

/-- what a cell holds -/
inductive MO where
  | lst (ds : List D)
  deriving Inhabited
abbrev Sto := List MO
abbrev Loc := List (Option D)

/-- an exception: its class by number, what it keeps -/
structure Ex where
  c : Nat
  fs : List (Str × P)

inductive R (α : Type) where
  | ok (a : α) (S : Sto)
  | ex (x : Ex) (S : Sto)
  | bad
def R.bind {α β : Type} : R α → (α → Sto → R β) → R β
  | .ok a S, f => f a S
  | .ex x S, _ => .ex x S
  | .bad, _ => .bad
/-- what a statement does -/
inductive Fl where
  | nx (L : Loc) (S : Sto)
  | rt (d : D) (S : Sto)
  | bk (L : Loc) (S : Sto)
  | ct (L : Loc) (S : Sto)
  | ex (x : Ex) (L : Loc) (S : Sto)
  | bad

/-! ### operators -/
inductive Bo where
  | add | sub | mul | fdiv | mod | pow
  deriving DecidableEq
inductive Co where
  | eq | ne | lt | le | gt | ge | is | isn | inn | nin
  deriving DecidableEq
inductive Bi where
  | len | abs | int | str | repr | all | any | tuple | list | sorted | max | min | sum
  deriving DecidableEq
inductive Ty where
  | int | bool | str | tuple | list | dict
  deriving DecidableEq
inductive Sk where
  | it | rng1 | rng2 | enum | zip
  deriving DecidableEq

inductive Tg where
  | n (i : Nat)
  | t (ts : List Tg)

inductive E where
  | v (i : Nat)
  | k (x : P)
  | bin (o : Bo) (a b : E)
  | neg (a : E)
  | not (a : E)
  | and (a b : E)
  | or (a b : E)
  | cmp (o : Co) (a b : E)
  | chain (o o' : Co) (a b c : E)
  | ite (t a b : E)
  | tup (es : List E)
  | lst (own : Bool) (es : List E)
  | call (f : Nat) (es : List E)
  | bi (b : Bi) (es : List E)
  | isi (T : Ty) (e : E)
  | ix (a b : E)
  | sl (a : E) (lo hi : Option E)
  | rev (a : E)
  | lc (own : Bool) (vs : List Nat) (tg : Tg) (s : Sk) (es : List E) (cond : Option E) (el : E)

inductive C where
  | set (i : Nat) (e : E)
  | setT (is : List Nat) (es : List E)
  | unp (tg : Tg) (e : E)
  | setIx (o i e : E)
  | app (o e : E)
  | expr (e : E)
  | ret (e : E)
  | retN
  | ite (t : E) (a b : List C)
  | fo (tg : Tg) (s : Sk) (es : List E) (b : List C)
  | wh (t : E) (b : List C)
  | pass | brk | cont | bad
  | raise (c : Nat) (es : List E)

/-! ### plain data -/
mutual
def toP : P → PyData
  | .non => .none
  | .bl b => .bool b
  | .int i => .int i
  | .str x => .str x
  | .tup ps => .tuple (toPs ps)
  | .lst ps => .list (toPs ps)
  | .fn _ => .none
  | .scr _ => .none
def toPs : List P → List PyData
  | [] => []
  | p :: ps => toP p :: toPs ps
end
/-- a text whose signs are signs -/
def okS (x : Str) : Bool := x.cps.toList.all fun c => Nat.blt c 0x110000
mutual
/-- data alone, at most so deep -/
def dat : Nat → P → Bool
  | _, .non => true
  | _, .bl _ => true
  | _, .int _ => true
  | _, .str x => okS x
  | 0, _ => false
  | n + 1, .tup ps => dats n ps
  | n + 1, .lst ps => dats n ps
  | _, .fn _ => false
  | _, .scr _ => false
def dats : Nat → List P → Bool
  | _, [] => true
  | n, p :: ps => dat n p && dats n ps
end
mutual
/-- how long its text can be; 0 if it has none here -/
def txt : P → Option Nat
  | .non => some 4
  | .bl _ => some 5
  | .int i => if i.natAbs.log2 < 1920 then some 1921 else none
  | .str x => some (10 * x.length + 2)
  | .tup ps => (txts ps).map (· + 3)
  | .lst ps => (txts ps).map (· + 3)
  | .fn _ => none
  | .scr _ => none
def txts : List P → Option Nat
  | [] => some 0
  | p :: ps => match txt p, txts ps with
    | some a, some b => some (a + 2 + b)
    | _, _ => none
end

def line : Nat := 16777216
def allP : List D → Option (List P)
  | [] => some []
  | .p x :: ds => (allP ds).map (x :: ·)
  | .ref _ :: _ => none
/-- a value as data: a cell's list as it stands now -/
def der (S : Sto) : D → Option P
  | .p x => some x
  | .ref n => match S[n]? with
    | some (.lst ds) => (allP ds).map .lst
    | none => none

def tru : P → Option Bool
  | .non => some false
  | .bl b => some b
  | .int i => some (i != 0)
  | .str x => if x.length ≤ line then some (x.length != 0) else none
  | .tup ps => some (!ps.isEmpty)
  | .lst ps => some (!ps.isEmpty)
  | _ => none
def eqD (a b : P) : Option Bool := if dat 64 a && dat 64 b then some (PyData.eqv (toP a) (toP b)) else none
def eqO : P → P → Option Bool
  | .str x, .str y => some (decide (x = y))
  | a, b => eqD a b
def mulOk (i j : Int) : Bool := Nat.blt (i.natAbs.log2 + j.natAbs.log2) 134217726
def fdivOk (i j : Int) : Bool := decide (0 < j) && !Builtin.divisionGoesByPylong i j
def powOk (i j : Int) : Bool := decide (0 ≤ j) && Nat.ble ((i.natAbs.log2 + 1) * j.toNat) 134217728
def bin : Bo → P → P → Option P
  | .add, .int i, .int j => some (.int (i + j))
  | .add, .str x, .str y => if x.length + y.length ≤ line then some (.str (x ++ y)) else none
  | .add, .tup xs, .tup ys => if xs.length + ys.length ≤ line then some (.tup (xs ++ ys)) else none
  | .add, .lst xs, .lst ys => if xs.length + ys.length ≤ line then some (.lst (xs ++ ys)) else none
  | .sub, .int i, .int j => some (.int (i - j))
  | .mul, .int i, .int j => if mulOk i j then some (.int (i * j)) else none
  | .fdiv, .int i, .int j => if fdivOk i j then some (.int (i / j)) else none
  | .mod, .int i, .int j => if 0 < j then some (.int (i % j)) else none
  | .pow, .int i, .int j => if powOk i j then some (.int (i ^ j.toNat)) else none
  | _, _, _ => none
def ltS (x y : Str) : Bool := decide (x.cps.toList < y.cps.toList)
def isNon : P → Bool
  | .non => true
  | _ => false
/-- x in y -/
def inO : P → P → Option Bool
  | x, .tup ys => if dat 64 x && dats 63 ys then some ((toPs ys).any fun z => PyData.eqv z (toP x)) else none
  | x, .lst ys => if dat 64 x && dats 63 ys then some ((toPs ys).any fun z => PyData.eqv z (toP x)) else none
  | .str x, .str y => match x.cps.toList with
    | [c] => some (decide (c ∈ y.cps.toList))
    | _ => none
  | _, _ => none
def cmpo : Co → P → P → Option Bool
  | .eq, a, b => eqO a b
  | .ne, a, b => (eqO a b).map not
  | .lt, .int i, .int j => some (decide (i < j))
  | .le, .int i, .int j => some (decide (i ≤ j))
  | .gt, .int i, .int j => some (decide (j < i))
  | .ge, .int i, .int j => some (decide (j ≤ i))
  | .lt, .str i, .str j => some (ltS i j)
  | .le, .str i, .str j => some (!ltS j i)
  | .gt, .str i, .str j => some (ltS j i)
  | .ge, .str i, .str j => some (!ltS i j)
  | .is, a, .non => some (isNon a)
  | .isn, a, .non => some (!isNon a)
  | .inn, a, b => inO a b
  | .nin, a, b => (inO a b).map not
  | _, _, _ => none
def ixN (n : Nat) (i : Int) : Option Nat := if 0 ≤ i then (if i < n then some i.toNat else none) else if -(n : Int) ≤ i then some (i + n).toNat else none
def item : P → P → Option P
  | .tup ps, .int i => (ixN ps.length i).bind fun j => ps[j]?
  | .lst ps, .int i => (ixN ps.length i).bind fun j => ps[j]?
  | .scr ns, .int i => (ixN ns.length i).bind fun j => (ns[j]?).map .int
  | .str x, .int i => if x.length ≤ line then (ixN x.cps.toList.length i).bind fun j => (x.cps.toList[j]?).map fun c => .str ⟨#[c]⟩ else none
  | _, _ => none
def bools : List P → Option (List Bool)
  | [] => some []
  | .bl b :: ps => (bools ps).map (b :: ·)
  | _ => none
def one (f : P → Option P) : List P → Option P
  | [x] => f x
  | _ => none
def two (f : P → P → Option P) : List P → Option P
  | [x, y] => f x y
  | _ => none
def len1 : P → Option P
  | .tup ps => some (.int ps.length)
  | .lst ps => some (.int ps.length)
  | .scr ns => some (.int ns.length)
  | .str x => if x.length ≤ line then some (.int x.length) else none
  | _ => none
def abs1 : P → Option P
  | .int i => some (.int (if i < 0 then -i else i))
  | _ => none
def int1 : P → Option P
  | .int i => some (.int i)
  | .bl b => some (.int (if b then 1 else 0))
  | _ => none
def str1 : P → Option P
  | .int i => if i.natAbs.log2 < 1920 then some (.str (toString i)) else none
  | .str x => some (.str x)
  | _ => none
def repr1 (x : P) : Option P := match txt x with
  | some n => if dat 64 x && Nat.ble n line then some (.str (PyData.shown (toP x))) else none
  | none => none
def all1 : P → Option P
  | .lst ps => (bools ps).map fun bs => .bl (bs.all id)
  | _ => none
def any1 : P → Option P
  | .lst ps => (bools ps).map fun bs => .bl (bs.any id)
  | _ => none
def tuple1 : P → Option P
  | .lst ps => some (.tup ps)
  | .tup ps => some (.tup ps)
  | _ => none
def list1 : P → Option P
  | .lst ps => some (.lst ps)
  | .tup ps => some (.lst ps)
  | _ => none
def max2 : P → P → Option P
  | .int i, .int j => some (.int (if j > i then j else i))
  | _, _ => none
def min2 : P → P → Option P
  | .int i, .int j => some (.int (if j < i then j else i))
  | _, _ => none
def blt : Bi → List P → Option P
  | .len, ps => one len1 ps
  | .abs, ps => one abs1 ps
  | .int, ps => one int1 ps
  | .str, ps => one str1 ps
  | .repr, ps => one repr1 ps
  | .all, ps => one all1 ps
  | .any, ps => one any1 ps
  | .tuple, ps => one tuple1 ps
  | .list, ps => one list1 ps
  | .max, ps => two max2 ps
  | .min, ps => two min2 ps
  | _, _ => none
def isi : Ty → P → Option Bool
  | _, .non => some false
  | .bool, .bl _ => some true
  | .int, .bl _ => some true
  | _, .bl _ => some false
  | .int, .int _ => some true
  | _, .int _ => some false
  | .str, .str _ => some true
  | _, .str _ => some false
  | .tuple, .tup _ => some true
  | _, .tup _ => some false
  | .list, .lst _ => some true
  | _, .lst _ => some false
  | _, _ => none
def clamp (n d : Nat) : Option Int → Nat
  | none => d
  | some i => if i < 0 then (i + n).toNat else min i.toNat n
def cut {α : Type} (xs : List α) (lo hi : Option Int) : List α := (xs.drop (clamp xs.length 0 lo)).take (clamp xs.length xs.length hi - clamp xs.length 0 lo)
def slice : P → Option Int → Option Int → Option P
  | .tup ps, lo, hi => some (.tup (cut ps lo hi))
  | .lst ps, lo, hi => some (.lst (cut ps lo hi))
  | _, _, _ => none
/-- what a loop walks -/
def iota (lo : Int) : Nat → List P
  | 0 => []
  | n + 1 => .int lo :: iota (lo + 1) n
def enums (i : Int) : List P → List P
  | [] => []
  | p :: ps => .tup [.int i, p] :: enums (i + 1) ps
def zips : List P → List P → List P
  | p :: ps, q :: qs => .tup [p, q] :: zips ps qs
  | _, _ => []
def seqOf : P → Option (List P)
  | .tup ps => some ps
  | .lst ps => some ps
  | .scr ns => some (ns.map .int)
  | _ => none
def itOf : P → Option (List P)
  | .str x => some (x.cps.toList.map fun c => .str ⟨#[c]⟩)
  | p => seqOf p
def inR (i : Int) : Bool := decide (-(2 ^ 62) ≤ i) && decide (i < 2 ^ 62)
def wIt : List P → Option (List P)
  | [x] => itOf x
  | _ => none
def wR1 : List P → Option (List P)
  | [.int j] => if inR j then some (iota 0 j.toNat) else none
  | _ => none
def wR2 : List P → Option (List P)
  | [.int i, .int j] => if inR i && inR j then some (iota i (j - i).toNat) else none
  | _ => none
def wEn : List P → Option (List P)
  | [.lst xs] => some (enums 0 xs)
  | _ => none
def wZip : List P → Option (List P)
  | [.tup xs, .tup ys] => some (zips xs ys)
  | [.lst xs, .lst ys] => some (zips xs ys)
  | _ => none
def walk : Sk → List P → Option (List P)
  | .it => wIt
  | .rng1 => wR1
  | .rng2 => wR2
  | .enum => wEn
  | .zip => wZip

/-- a target takes a value -/
def setL (L : Loc) (i : Nat) (d : D) : Loc := L.set i (some d)
mutual
def asg : Tg → D → Loc → Option Loc
  | .n i, d, L => if i < L.length then some (setL L i d) else none
  | .t ts, .p (.tup ps), L => asgs ts ps L
  | .t _, _, _ => none
def asgs : List Tg → List P → Loc → Option Loc
  | [], [], L => some L
  | t :: ts, p :: ps, L => (asg t (.p p) L).bind (asgs ts ps)
  | _, _, _ => none
end
def wipeL (L : Loc) : List Nat → Loc
  | [] => L
  | v :: vs => (wipeL L vs).set v none
def setN : List Nat → List D → Loc → Option Loc
  | [], [], L => some L
  | i :: is, d :: ds, L => if i < L.length then setN is ds (setL L i d) else none
  | _, _, _ => none

/-! ### the evaluator -/
structure Ev where
  e : E → Loc → Sto → R D
  t : E → Loc → Sto → R Bool
  c : List C → Loc → Sto → Fl

def lift {α : Type} (S : Sto) : Option α → R α
  | some a => .ok a S
  | none => .bad
def liftP (S : Sto) (o : Option P) : R D := match o with
  | some x => .ok (.p x) S
  | none => .bad

section
variable (cal : Nat → List D → Sto → R D) (s : Ev)
/-- e as data -/
def evP (e : E) (L : Loc) (S : Sto) : R P := (s.e e L S).bind fun d S1 => lift S1 (der S1 d)
def evs : List E → Loc → Sto → R (List D)
  | [], _, S => .ok [] S
  | e :: es, L, S => (s.e e L S).bind fun d S1 => (evs es L S1).bind fun ds S2 => .ok (d :: ds) S2
/-- arguments read as data behind the last one -/
def ders (S : Sto) : List D → Option (List P)
  | [] => some []
  | d :: ds => match der S d, ders S ds with
    | some p, some ps => some (p :: ps)
    | _, _ => none
def evOpt : Option E → Loc → Sto → R (Option Int)
  | none, _, S => .ok none S
  | some e, L, S => (s.e e L S).bind fun d S1 => match d with
    | .p (.int i) => .ok (some i) S1
    | _ => .bad
def evB (o : Option Bool) (S : Sto) : R D := match o with
  | some b => .ok (.p (.bl b)) S
  | none => .bad
/-- a def called: alone, if nothing is handed to it that can change -/
def callD (f : Nat) (ds : List D) (S : Sto) : R D :=
  match allP ds with
  | some _ => match cal f ds [] with
    | .ok (.p x) _ => .ok (.p x) S
    | .ok (.ref _) _ => cal f ds S
    | .ex x _ => .ex x S
    | .bad => .bad
  | none => cal f ds S
/-- a comprehension's turns -/
def lcP (L : Loc) (tg : Tg) (cond : Option E) (el : E) : List P → Sto → R (List P)
  | [], S => .ok [] S
  | p :: ps, S => match asg tg (.p p) L with
    | none => .bad
    | some L1 => (match cond with
        | none => (R.ok true S : R Bool)
        | some c => s.t c L1 S).bind fun b S1 =>
      if b then (s.e el L1 S1).bind fun d S2 => match d with
        | .p x => (lcP L tg cond el ps S2).bind fun xs S3 => .ok (x :: xs) S3
        | .ref _ => .bad
      else lcP L tg cond el ps S1
def noEx {α : Type} : R α → R α
  | .ex _ _ => .bad
  | r => r
def binR (o : Bo) (x y : D) (S : Sto) : R D := match der S x, der S y with
  | some p, some q => liftP S (bin o p q)
  | _, _ => .bad
def negR (x : D) (S : Sto) : R D := match x with
  | .p (.int i) => .ok (.p (.int (-i))) S
  | _ => .bad
def truR (x : D) (S : Sto) : R Bool := lift S ((der S x).bind tru)
def cmpR (o : Co) (x y : D) (S : Sto) : R D := match der S x, der S y with
  | some p, some q => evB (cmpo o p q) S
  | _, _ => .bad
def isiR (T : Ty) (x : D) (S : Sto) : R D := match der S x with
  | some p => evB (isi T p) S
  | none => .bad
def ixR (x y : D) (S : Sto) : R D := match x, y with
  | .p p, .p q => liftP S (item p q)
  | .ref n, .p (.int i) => match S[n]? with
    | some (.lst ds) => match (ixN ds.length i).bind fun j => ds[j]? with
      | some d => .ok d S
      | none => .bad
    | none => .bad
  | _, _ => .bad
def slR (x : D) (i j : Option Int) (S : Sto) : R D := match der S x with
  | some p => liftP S (slice p i j)
  | none => .bad
def revR (x : D) (S : Sto) : R D := match der S x with
  | some (.lst ps) => .ok (.p (.lst ps.reverse)) S
  | _ => .bad
def tupR (ds : List D) (S : Sto) : R D := match allP ds with
  | some ps => if ps.length ≤ line then .ok (.p (.tup ps)) S else .bad
  | none => .bad
def lstR (own : Bool) (ds : List D) (S : Sto) : R D := if own then (if ds.length ≤ line then .ok (.ref S.length) (S ++ [.lst ds]) else .bad)
  else match allP ds with
    | some ps => if ps.length ≤ line then .ok (.p (.lst ps)) S else .bad
    | none => .bad
def biR (b : Bi) (ds : List D) (S : Sto) : R D := match ders S ds with
  | some ps => liftP S (blt b ps)
  | none => .bad
/-- what is walked, from the arguments as they stand -/
def walkR (k : Sk) (ds : List D) (S : Sto) : R (List P) := match allP ds with
  | some qs => lift S (walk k qs)
  | none => .bad
def evE : E → Loc → Sto → R D
  | .v i, L, S => match L[i]? with
    | some (some d) => .ok d S
    | _ => .bad
  | .k x, _, S => .ok (.p x) S
  | .bin o a b, L, S => (s.e a L S).bind fun x S1 => (s.e b L S1).bind fun y S2 => binR o x y S2
  | .neg a, L, S => (s.e a L S).bind fun x S1 => negR x S1
  | .not a, L, S => (s.e a L S).bind fun x S1 => (truR x S1).bind fun b S2 => .ok (.p (.bl (!b))) S2
  | .and a b, L, S => (s.e a L S).bind fun x S1 => (truR x S1).bind fun k S2 => if k then s.e b L S2 else .ok x S2
  | .or a b, L, S => (s.e a L S).bind fun x S1 => (truR x S1).bind fun k S2 => if k then .ok x S2 else s.e b L S2
  | .cmp o a b, L, S => (s.e a L S).bind fun x S1 => (s.e b L S1).bind fun y S2 => cmpR o x y S2
  | .chain o o' a b c, L, S => (s.e a L S).bind fun x S1 => (s.e b L S1).bind fun y S2 => (cmpR o x y S2).bind fun z S3 => match z with
    | .p (.bl true) => (s.e c L S3).bind fun w S4 => cmpR o' y w S4
    | .p (.bl false) => .ok (.p (.bl false)) S3
    | _ => .bad
  | .ite t a b, L, S => (s.t t L S).bind fun k S1 => if k then s.e a L S1 else s.e b L S1
  | .tup es, L, S => (evs s es L S).bind fun ds S1 => tupR ds S1
  | .lst own es, L, S => (evs s es L S).bind fun ds S1 => lstR own ds S1
  | .call f es, L, S => (evs s es L S).bind fun ds S1 => callD cal f ds S1
  | .bi b es, L, S => (evs s es L S).bind fun ds S1 => biR b ds S1
  | .isi T e, L, S => (s.e e L S).bind fun x S1 => isiR T x S1
  | .ix a b, L, S => (s.e a L S).bind fun x S1 => (s.e b L S1).bind fun y S2 => ixR x y S2
  | .sl a lo hi, L, S => (s.e a L S).bind fun x S1 => (evOpt s lo L S1).bind fun i S2 => (evOpt s hi L S2).bind fun j S3 => slR x i j S3
  | .rev a, L, S => (s.e a L S).bind fun x S1 => revR x S1
  | .lc own vs tg k es cond el, L, S => (evs s es L S).bind fun ds S1 => (walkR k ds S1).bind fun ps S2 =>
    (noEx (lcP s (wipeL L vs) tg cond el ps S2)).bind fun xs S3 =>
      if xs.length < line then (if own then .ok (.ref S3.length) (S3 ++ [.lst (xs.map .p)]) else .ok (.p (.lst xs)) S3) else .bad
/-- a test -/
def evT : E → Loc → Sto → R Bool
  | .not a, L, S => (s.t a L S).bind fun b S1 => .ok (!b) S1
  | .and a b, L, S => (s.t a L S).bind fun k S1 => if k then s.t b L S1 else .ok false S1
  | .or a b, L, S => (s.t a L S).bind fun k S1 => if k then .ok true S1 else s.t b L S1
  | e, L, S => (evE cal s e L S).bind fun x S1 => truR x S1

def R.fl {α : Type} (L : Loc) : R α → (α → Sto → Fl) → Fl
  | .ok a S, f => f a S
  | .ex x S, _ => .ex x L S
  | .bad, _ => .bad
def Fl.then : Fl → (Loc → Sto → Fl) → Fl
  | .nx L S, f => f L S
  | r, _ => r
/-- a for's turns -/
def foP (tg : Tg) (b : List C) : List P → Loc → Sto → Fl
  | [], L, S => .nx L S
  | p :: ps, L, S => match asg tg (.p p) L with
    | none => .bad
    | some L1 => match s.c b L1 S with
      | .nx L2 S2 => foP tg b ps L2 S2
      | .ct L2 S2 => foP tg b ps L2 S2
      | .bk L2 S2 => .nx L2 S2
      | r => r
def evC (rs : Nat → List P → Option Ex) : C → Loc → Sto → Fl
  | .set i e, L, S => R.fl L (s.e e L S) fun d S1 => if i < L.length then .nx (setL L i d) S1 else .bad
  | .setT is es, L, S => R.fl L (evs s es L S) fun ds S1 => match setN is ds L with
    | some L1 => .nx L1 S1
    | none => .bad
  | .unp tg e, L, S => R.fl L (s.e e L S) fun d S1 => match asg tg d L with
    | some L1 => .nx L1 S1
    | none => .bad
  | .setIx o i e, L, S => R.fl L (s.e e L S) fun d S1 => R.fl L (s.e o L S1) fun x S2 => R.fl L (s.e i L S2) fun y S3 => match x, y with
    | .ref n, .p (.int i) => match S3[n]? with
      | some (.lst ds) => match ixN ds.length i with
        | some j => .nx L (S3.set n (.lst (ds.set j d)))
        | none => .bad
      | none => .bad
    | _, _ => .bad
  | .app o e, L, S => R.fl L (s.e o L S) fun x S1 => match x with
    | .ref n => match S1[n]? with
      | some _ => R.fl L (s.e e L S1) fun d S2 => match S2[n]? with
        | some (.lst ds) => if ds.length < line then .nx L (S2.set n (.lst (ds ++ [d]))) else .bad
        | none => .bad
      | none => .bad
    | _ => .bad
  | .expr e, L, S => R.fl L (s.e e L S) fun _ S1 => .nx L S1
  | .ret e, L, S => R.fl L (s.e e L S) fun d S1 => .rt d S1
  | .retN, _, S => .rt (.p .non) S
  | .ite t a b, L, S => R.fl L (s.t t L S) fun k S1 => if k then s.c a L S1 else s.c b L S1
  | .fo tg k es b, L, S => R.fl L ((evs s es L S).bind fun ds S1 => walkR k ds S1) fun ps S1 => foP s tg b ps L S1
  | .wh t b, L, S => R.fl L (s.t t L S) fun k S1 => if k then (match s.c b L S1 with
      | .nx L2 S2 => s.c [.wh t b] L2 S2
      | .ct L2 S2 => s.c [.wh t b] L2 S2
      | .bk L2 S2 => .nx L2 S2
      | r => r) else .nx L S1
  | .pass, L, S => .nx L S
  | .brk, L, S => .bk L S
  | .cont, L, S => .ct L S
  | .bad, _, _ => .bad
  | .raise c es, L, S => R.fl L (evs s es L S) fun ds S1 => match (allP ds).bind (rs c) with
    | some x => .ex x L S1
    | none => .bad
def evCs (rs : Nat → List P → Option Ex) : List C → Loc → Sto → Fl
  | [], L, S => .nx L S
  | c :: cs, L, S => (evC s rs c L S).then fun L1 S1 => evCs rs cs L1 S1
end

/-- a program: its defs, and what its own exceptions keep -/
structure Def where
  np : Nat
  nl : Nat
  b : List C
structure Prog where
  ds : List Def
  rs : Nat → List P → Option Ex
  fu : Nat

def badE : Ev := ⟨fun _ _ _ => .bad, fun _ _ _ => .bad, fun _ _ _ => .bad⟩
def ev (G : Prog) (cal : Nat → List D → Sto → R D) : Nat → Ev
  | 0 => badE
  | n + 1 => ⟨fun e => evE cal (ev G cal n) e, fun e => evT cal (ev G cal n) e, fun b => evCs (ev G cal n) G.rs b⟩
def endR : Fl → R D
  | .nx _ S => .ok (.p .non) S
  | .rt d S => .ok d S
  | .ex x _ S => .ex x S
  | _ => .bad
/-- the f-th def called, at most k calls deep -/
def evF (G : Prog) : Nat → Nat → List D → Sto → R D
  | 0, _, _, _ => .bad
  | k + 1, f, ds, S => match G.ds[f]? with
    | some d => if ds.length = d.np then endR ((ev G (evF G k) G.fu).c d.b (ds.map some ++ List.replicate (d.nl - d.np) none) S) else .bad
    | none => .bad
end Mn
/-! Mn2: how data stands in a heap; readings by an evaluator. -/
namespace Mn
open L2 PyProof.Rows PySem.Spec PySem
abbrev Ls := L2.St

/-- ghosts: foreign addresses that can change, and the addresses of the store's cells -/
structure Gs where
  F : Addr → Prop
  ρ : List Addr
def Gs.M (g : Gs) (a : Addr) : Prop := g.F a ∨ a ∈ g.ρ

/-- what is fixed through a program -/
structure Ka where
  K : PySem.W.Frag
  cl : Nat → Option Addr

def KSeq (K : PySem.W.Frag) (T : String) (a : Addr) (xs : List V) : Prop :=
  ∃ (o : Obj) (its : Array Value) (n : Nat), K.lookup a = some o ∧ o.cls = .type T ∧ o.dict = none ∧ o.data = .seq its n ∧ its.size ≤ sizeLine ∧ Vals xs its.toList
def TA (K : PySem.W.Frag) (g : Gs) (H : Hp) (a : Addr) (vs : List V) : Prop := (H a = some (.tup vs) ∧ ¬ g.M a) ∨ KSeq K "tuple" a vs
def ScA (K : PySem.W.Frag) (g : Gs) (H : Hp) (a : Addr) (vs : List V) : Prop := (∃ o, H a = some (.frz o (.lst vs)) ∧ ¬ g.M a) ∨ KSeq K "list" a vs
theorem TA.sq {K : PySem.W.Frag} {g : Gs} {H : Hp} {a : Addr} {vs : List V} (h : TA K g H a vs) : SqT K H a vs := by
  rcases h with h | ⟨o, its, n, h1, h2, _, h3, h4, h5⟩
  · exact .inl (.inl h.1)
  · exact .inr ⟨o, its, n, h1, h2, h3, h4, h5⟩
theorem ScA.sq {K : PySem.W.Frag} {g : Gs} {H : Hp} {a : Addr} {vs : List V} (h : ScA K g H a vs) : SqL K H a vs := by
  rcases h with ⟨o, h, _⟩ | h
  · exact .inl (.inr ⟨o, h⟩)
  · exact .inr h

mutual
inductive RP (k : Ka) (g : Gs) (H : Hp) : V → P → Prop
  | non : RP k g H .non .non
  | bl (b : Bool) : RP k g H (.bl b) (.bl b)
  | int (i : Int) : RP k g H (.int i) (.int i)
  | str (x : Str) : RP k g H (.str x) (.str x)
  | tup {a : Addr} {vs : List V} {ps : List P} : TA k.K g H a vs → RPs k g H vs ps → RP k g H (.ref a) (.tup ps)
  | lst {a : Addr} {vs : List V} {ps : List P} : H a = some (.lst vs) → ¬ g.M a → RPs k g H vs ps → RP k g H (.ref a) (.lst ps)
  | scr {a : Addr} {ns : List Int} : ScA k.K g H a (ns.map V.int) → RP k g H (.ref a) (.scr ns)
inductive RPs (k : Ka) (g : Gs) (H : Hp) : List V → List P → Prop
  | nil : RPs k g H [] []
  | cons {v : V} {vs : List V} {p : P} {ps : List P} : RP k g H v p → RPs k g H vs ps → RPs k g H (v :: vs) (p :: ps)
end
def RD (k : Ka) (g : Gs) (H : Hp) (v : V) : D → Prop
  | .p x => RP k g H v x
  | .ref n => ∃ a, v = .ref a ∧ g.ρ[n]? = some a
inductive RDs (k : Ka) (g : Gs) (H : Hp) : List V → List D → Prop
  | nil : RDs k g H [] []
  | cons {v : V} {vs : List V} {d : D} {ds : List D} : RD k g H v d → RDs k g H vs ds → RDs k g H (v :: vs) (d :: ds)

structure RS (k : Ka) (g : Gs) (H : Hp) (S : Sto) : Prop where
  len : g.ρ.length = S.length
  nd : g.ρ.Nodup
  fl : ∀ a, g.F a → ∃ o, H a = some o
  dj : ∀ a ∈ g.ρ, ¬ g.F a
  cell : ∀ (n : Nat) (a : Addr) (ds : List D), g.ρ[n]? = some a → S[n]? = some (MO.lst ds) → ∃ vs, H a = some (.lst vs) ∧ RDs k g H vs ds
structure Ext (g : Gs) (H : Hp) (g1 : Gs) (H1 : Hp) : Prop where
  F : g1.F = g.F
  pre : ∃ t, g1.ρ = g.ρ ++ t ∧ ∀ p ∈ t, H p = none
  keep : ∀ a o, H a = some o → a ∉ g.ρ → H1 a = some o
  live : ∀ a o, H a = some o → ∃ o', H1 a = some o'
def RL (k : Ka) (g : Gs) (H : Hp) (σ : Ls) (L : Loc) : Prop :=
  σ.length = L.length ∧ ∀ (i : Nat) d, L[i]? = some (some d) → ∃ v, σ[i]? = some (some v) ∧ RD k g H v d

section
variable {k : Ka} {g g1 g2 : Gs} {H H1 H2 : Hp} {S S1 : Sto} {σ : Ls} {L : Loc}
theorem Ext.refl : Ext g H g H := ⟨rfl, ⟨[], by simp, fun _ h => nomatch h⟩, fun _ _ h _ => h, fun _ o h => ⟨o, h⟩⟩
theorem Ext.mem (x : Ext g H g1 H1) {a : Addr} {o : HO} (h : H a = some o) (n : a ∉ g.ρ) : a ∉ g1.ρ := by
  obtain ⟨t, e, ht⟩ := x.pre
  rw [e]
  intro hm
  rcases List.mem_append.mp hm with z | z
  · exact n z
  · rw [ht a z] at h; cases h
theorem Ext.notM (x : Ext g H g1 H1) {a : Addr} {o : HO} (h : H a = some o) (n : ¬ g.M a) : ¬ g1.M a := by
  intro hm
  rcases hm with z | z
  · rw [x.F] at z; exact n (.inl z)
  · exact x.mem h (fun q => n (.inr q)) z
theorem Ext.at (x : Ext g H g1 H1) {a : Addr} {o : HO} (h : H a = some o) (n : ¬ g.M a) : H1 a = some o := x.keep a o h fun q => n (.inr q)
theorem Ext.trans (x : Ext g H g1 H1) (y : Ext g1 H1 g2 H2) : Ext g H g2 H2 := by
  obtain ⟨t, e, ht⟩ := x.pre
  obtain ⟨t', e', ht'⟩ := y.pre
  refine ⟨y.F.trans x.F, ⟨t ++ t', by rw [e', e, List.append_assoc], fun p hp => ?_⟩, fun a o h n => y.keep a o (x.keep a o h n) (x.mem h n), fun a o h => ?_⟩
  · rcases List.mem_append.mp hp with z | z
    · exact ht p z
    · cases q : H p with
      | none => rfl
      | some o =>
        obtain ⟨o', q'⟩ := x.live p o q
        rw [ht' p z] at q'; cases q'
  · obtain ⟨o', q'⟩ := x.live a o h
    exact y.live a o' q'
theorem Ext.ref (x : Ext g H g1 H1) {n : Nat} {a : Addr} (h : g.ρ[n]? = some a) : g1.ρ[n]? = some a := by
  obtain ⟨t, e, _⟩ := x.pre
  rw [e, List.getElem?_append_left (List.getElem?_eq_some_iff.mp h).1]
  exact h
/-- what data leans on goes over -/
structure Gr (g : Gs) (H : Hp) (g1 : Gs) (H1 : Hp) : Prop where
  kp : ∀ a o, H a = some o → ¬ g.M a → H1 a = some o
  notM : ∀ a o, H a = some o → ¬ g.M a → ¬ g1.M a
  ref : ∀ (n : Nat) (a : Addr), g.ρ[n]? = some a → g1.ρ[n]? = some a
theorem Ext.gr (x : Ext g H g1 H1) : Gr g H g1 H1 := ⟨fun _ _ h n => x.at h n, fun _ _ h n => x.notM h n, fun _ _ h => x.ref h⟩
/-- what plain data leans on goes over -/
structure Gp (g : Gs) (H : Hp) (g1 : Gs) (H1 : Hp) : Prop where
  kp : ∀ a o, H a = some o → ¬ g.M a → H1 a = some o
  notM : ∀ a o, H a = some o → ¬ g.M a → ¬ g1.M a
theorem Gr.gp (x : Gr g H g1 H1) : Gp g H g1 H1 := ⟨x.kp, x.notM⟩
mutual
theorem RP.gp (x : Gp g H g1 H1) : ∀ {p : P} {v : V}, RP k g H v p → RP k g1 H1 v p
  | .non, _, h => by cases h; exact .non
  | .bl b, _, h => by cases h; exact .bl b
  | .int i, _, h => by cases h; exact .int i
  | .str z, _, h => by cases h; exact .str z
  | .tup ps, _, h => by
    cases h with
    | tup t r =>
      refine .tup ?_ (RPs.gp x r)
      rcases t with t | t
      · exact .inl ⟨x.kp _ _ t.1 t.2, x.notM _ _ t.1 t.2⟩
      · exact .inr t
  | .lst ps, _, h => by
    cases h with
    | lst t n r => exact .lst (x.kp _ _ t n) (x.notM _ _ t n) (RPs.gp x r)
  | .fn _, _, h => by cases h
  | .scr ns, _, h => by
    cases h with
    | scr t =>
      refine .scr ?_
      rcases t with ⟨o, t⟩ | t
      · exact .inl ⟨o, x.kp _ _ t.1 t.2, x.notM _ _ t.1 t.2⟩
      · exact .inr t
theorem RPs.gp (x : Gp g H g1 H1) : ∀ {ps : List P} {vs : List V}, RPs k g H vs ps → RPs k g1 H1 vs ps
  | [], _, h => by cases h; exact .nil
  | p :: ps, _, h => by
    cases h with
    | cons a b => exact .cons (RP.gp x a) (RPs.gp x b)
end
theorem RP.gr (x : Gr g H g1 H1) {p : P} {v : V} (h : RP k g H v p) : RP k g1 H1 v p := RP.gp x.gp h
theorem RPs.gr (x : Gr g H g1 H1) {ps : List P} {vs : List V} (h : RPs k g H vs ps) : RPs k g1 H1 vs ps := RPs.gp x.gp h
theorem RD.gr (x : Gr g H g1 H1) {d : D} {v : V} (h : RD k g H v d) : RD k g1 H1 v d := by
  cases d with
  | p y => exact RP.gr x h
  | ref n =>
    obtain ⟨a, e, h⟩ := h
    exact ⟨a, e, x.ref _ _ h⟩
theorem RDs.gr (x : Gr g H g1 H1) : ∀ {ds : List D} {vs : List V}, RDs k g H vs ds → RDs k g1 H1 vs ds
  | [], _, h => by cases h; exact .nil
  | d :: ds, _, h => by
    cases h with
    | cons a b => exact .cons (RD.gr x a) (RDs.gr x b)
theorem RL.gr (x : Gr g H g1 H1) (h : RL k g H σ L) : RL k g1 H1 σ L :=
  ⟨h.1, fun i d e => let ⟨v, e1, r⟩ := h.2 i d e; ⟨v, e1, r.gr x⟩⟩
theorem RP.mono (x : Ext g H g1 H1) {p : P} {v : V} (h : RP k g H v p) : RP k g1 H1 v p := h.gr x.gr
theorem RPs.mono (x : Ext g H g1 H1) {ps : List P} {vs : List V} (h : RPs k g H vs ps) : RPs k g1 H1 vs ps := h.gr x.gr
theorem RD.mono (x : Ext g H g1 H1) {d : D} {v : V} (h : RD k g H v d) : RD k g1 H1 v d := h.gr x.gr
theorem RDs.mono (x : Ext g H g1 H1) {ds : List D} {vs : List V} (h : RDs k g H vs ds) : RDs k g1 H1 vs ds := h.gr x.gr
theorem RL.mono (x : Ext g H g1 H1) (h : RL k g H σ L) : RL k g1 H1 σ L := h.gr x.gr
theorem RPs.length : ∀ {ps : List P} {vs : List V}, RPs k g H vs ps → vs.length = ps.length
  | [], _, h => by cases h; rfl
  | p :: ps, _, h => by
    cases h with
    | cons a b => exact congrArg (· + 1) (RPs.length b)
theorem RDs.length : ∀ {ds : List D} {vs : List V}, RDs k g H vs ds → vs.length = ds.length
  | [], _, h => by cases h; rfl
  | p :: ps, _, h => by
    cases h with
    | cons a b => exact congrArg (· + 1) (RDs.length b)
theorem RPs.get : ∀ {ps : List P} {vs : List V} {i : Nat} {p : P}, RPs k g H vs ps → ps[i]? = some p → ∃ v, vs[i]? = some v ∧ RP k g H v p
  | [], _, _, _, _, e => by simp at e
  | q :: ps, _, 0, p, h, e => by
    cases h with
    | cons a b =>
      have e' : q = p := by simpa using e
      subst e'
      exact ⟨_, rfl, a⟩
  | q :: ps, _, i + 1, p, h, e => by
    cases h with
    | cons a b =>
      obtain ⟨v, e1, r⟩ := RPs.get (i := i) b (by simpa using e)
      exact ⟨v, by simpa using e1, r⟩
theorem RDs.get : ∀ {ps : List D} {vs : List V} {i : Nat} {p : D}, RDs k g H vs ps → ps[i]? = some p → ∃ v, vs[i]? = some v ∧ RD k g H v p
  | [], _, _, _, _, e => by simp at e
  | q :: ps, _, 0, p, h, e => by
    cases h with
    | cons a b =>
      have e' : q = p := by simpa using e
      subst e'
      exact ⟨_, rfl, a⟩
  | q :: ps, _, i + 1, p, h, e => by
    cases h with
    | cons a b =>
      obtain ⟨v, e1, r⟩ := RDs.get (i := i) b (by simpa using e)
      exact ⟨v, by simpa using e1, r⟩
theorem RPs.append : ∀ {ps qs : List P} {vs ws : List V}, RPs k g H vs ps → RPs k g H ws qs → RPs k g H (vs ++ ws) (ps ++ qs)
  | [], _, _, _, h, h' => by cases h; exact h'
  | p :: ps, _, _, _, h, h' => by
    cases h with
    | cons a b => exact .cons a (RPs.append b h')
theorem RDs.append : ∀ {ps qs : List D} {vs ws : List V}, RDs k g H vs ps → RDs k g H ws qs → RDs k g H (vs ++ ws) (ps ++ qs)
  | [], _, _, _, h, h' => by cases h; exact h'
  | p :: ps, _, _, _, h, h' => by
    cases h with
    | cons a b => exact .cons a (RDs.append b h')
theorem RPs.take : ∀ {ps : List P} {vs : List V} (n : Nat), RPs k g H vs ps → RPs k g H (vs.take n) (ps.take n)
  | [], _, _, h => by cases h; simp; exact .nil
  | p :: ps, _, 0, h => by simp; exact .nil
  | p :: ps, _, n + 1, h => by
    cases h with
    | cons a b => exact .cons a (RPs.take n b)
theorem RPs.drop : ∀ {ps : List P} {vs : List V} (n : Nat), RPs k g H vs ps → RPs k g H (vs.drop n) (ps.drop n)
  | [], _, _, h => by cases h; simp; exact .nil
  | p :: ps, _, 0, h => h
  | p :: ps, _, n + 1, h => by
    cases h with
    | cons a b => exact RPs.drop n b
theorem RPs.reverse : ∀ {ps : List P} {vs : List V}, RPs k g H vs ps → RPs k g H vs.reverse ps.reverse
  | [], _, h => by cases h; exact .nil
  | p :: ps, _, h => by
    cases h with
    | cons a b =>
      rw [List.reverse_cons, List.reverse_cons]
      exact (RPs.reverse b).append (.cons a .nil)
theorem RDs.set : ∀ {ds : List D} {vs : List V} {v : V} {d : D} (j : Nat), RDs k g H vs ds → RD k g H v d → RDs k g H (vs.set j v) (ds.set j d)
  | [], _, _, _, _, h, _ => by cases h; exact .nil
  | e :: ds, _, _, _, 0, h, r => by
    cases h with
    | cons a b => exact .cons r b
  | e :: ds, _, _, _, j + 1, h, r => by
    cases h with
    | cons a b => exact .cons a (RDs.set j b r)
theorem RDs.ofP : ∀ {ds : List D} {ps : List P} {vs : List V}, allP ds = some ps → RDs k g H vs ds → RPs k g H vs ps
  | [], ps, _, e, h => by
    cases h
    have : ps = [] := by simpa [allP] using e.symm
    subst this; exact .nil
  | .p x :: ds, ps, _, e, h => by
    unfold allP at e
    cases q : allP ds with
    | none => rw [q] at e; cases e
    | some qs =>
      rw [q] at e
      have e' : x :: qs = ps := by simpa using e
      subst e'
      cases h with
      | cons a b => exact .cons a (RDs.ofP q b)
  | .ref _ :: ds, _, _, e, _ => by simp [allP] at e
theorem RPs.toD : ∀ {ps : List P} {vs : List V}, RPs k g H vs ps → RDs k g H vs (ps.map .p)
  | [], _, h => by cases h; exact .nil
  | p :: ps, _, h => by
    cases h with
    | cons a b => exact .cons a (RPs.toD b)
end
end Mn
/-! Mn3: the store changes; readings; how they are put together. -/
namespace Mn
open L2 PyProof.Rows PySem.Spec PySem
section
variable {k : Ka} {g g1 g2 : Gs} {H H1 H2 : Hp} {S S1 : Sto} {σ : Ls} {L : Loc}

theorem RS.live (r : RS k g H S) {a : Addr} (h : a ∈ g.ρ) : ∃ (n : Nat) (ds : List D) (vs : List V), g.ρ[n]? = some a ∧ S[n]? = some (MO.lst ds) ∧ H a = some (.lst vs) ∧ RDs k g H vs ds := by
  obtain ⟨n, hn, e⟩ := List.mem_iff_getElem.mp h
  have e1 : g.ρ[n]? = some a := by rw [List.getElem?_eq_getElem hn, e]
  have hs : n < S.length := by rw [← r.len]; exact hn
  obtain ⟨ds, e2⟩ : ∃ ds, S[n]? = some (MO.lst ds) := by
    rw [List.getElem?_eq_getElem hs]
    cases q : S[n] with
    | lst ds => exact ⟨ds, rfl⟩
  obtain ⟨vs, h1, h2⟩ := r.cell n a ds e1 e2
  exact ⟨n, ds, vs, e1, e2, h1, h2⟩
theorem RS.fresh (r : RS k g H S) {p : Addr} (h : H p = none) : ¬ g.M p := by
  rintro (z | z)
  · obtain ⟨o, e⟩ := r.fl p z
    rw [h] at e; cases e
  · obtain ⟨_, _, _, _, _, e, _⟩ := r.live z
    rw [h] at e; cases e
/-- the heap has grown beside the cells -/
theorem RS.grown (r : RS k g H S) (x : Ext g H g H1) (c : ∀ a ∈ g.ρ, H1 a = H a) : RS k g H1 S :=
  ⟨r.len, r.nd, fun a h => let ⟨o, e⟩ := r.fl a h; x.live a o e, r.dj, fun n a ds e1 e2 => by
    obtain ⟨vs, h1, h2⟩ := r.cell n a ds e1 e2
    exact ⟨vs, (c a (List.mem_of_getElem? e1)).trans h1, h2.mono x⟩⟩
theorem Ext.laid (r : RS k g H S) {p : Addr} (h : H p = none) (o : HO) : Ext g H g (upd H p o) :=
  ⟨rfl, ⟨[], by simp, fun _ z => nomatch z⟩, fun a u e _ => by rw [upd_ne (ne_of_none e h)]; exact e, fun a u e => by rw [upd_ne (ne_of_none e h)]; exact ⟨u, e⟩⟩
/-- a new object beside the store -/
theorem RS.laid (r : RS k g H S) {p : Addr} (h : H p = none) (o : HO) : RS k g (upd H p o) S :=
  r.grown (Ext.laid r h o) fun a ha => by
    obtain ⟨_, _, _, _, _, e, _⟩ := r.live ha
    exact upd_ne (ne_of_none e h)
theorem RP.newTup (r : RS k g H S) {p : Addr} (h : H p = none) {vs : List V} {ps : List P} (q : RPs k g H vs ps) : RP k g (upd H p (.tup vs)) (.ref p) (.tup ps) :=
  .tup (.inl ⟨upd_same, r.fresh h⟩) (q.mono (Ext.laid r h _))
theorem RP.newLst (r : RS k g H S) {p : Addr} (h : H p = none) {vs : List V} {ps : List P} (q : RPs k g H vs ps) : RP k g (upd H p (.lst vs)) (.ref p) (.lst ps) :=
  .lst upd_same (r.fresh h) (q.mono (Ext.laid r h _))
/-- a new cell -/
def Gs.add (g : Gs) (p : Addr) : Gs := ⟨g.F, g.ρ ++ [p]⟩
theorem Ext.cell (r : RS k g H S) {p : Addr} (h : H p = none) (o : HO) : Ext g H (g.add p) (upd H p o) :=
  ⟨rfl, ⟨[p], rfl, fun q z => by rw [List.mem_singleton.mp z]; exact h⟩, fun a u e _ => by rw [upd_ne (ne_of_none e h)]; exact e, fun a u e => by rw [upd_ne (ne_of_none e h)]; exact ⟨u, e⟩⟩
theorem RS.cellNew (r : RS k g H S) {p : Addr} (h : H p = none) {vs : List V} {ds : List D} (q : RDs k g H vs ds) : RS k (g.add p) (upd H p (.lst vs)) (S ++ [.lst ds]) := by
  have x := Ext.cell r h (.lst vs)
  have nm := r.fresh h
  refine ⟨?_, ?_, fun a z => ?_, fun a ha z => ?_, fun n a es e1 e2 => ?_⟩
  · show (g.ρ ++ [p]).length = (S ++ [MO.lst ds]).length
    rw [List.length_append, List.length_append, r.len]; rfl
  · show (g.ρ ++ [p]).Nodup
    rw [List.nodup_append]
    refine ⟨r.nd, by simp, fun a ha b hb e => ?_⟩
    rw [List.mem_singleton.mp hb] at e
    exact nm (.inr (e ▸ ha))
  · obtain ⟨o, e⟩ := r.fl a z
    exact x.live a o e
  · rcases List.mem_append.mp ha with y | y
    · exact r.dj a y z
    · rw [List.mem_singleton.mp y] at z
      exact nm (.inl z)
  · have e1 : (g.ρ ++ [p])[n]? = some a := e1
    by_cases hn : n < g.ρ.length
    · rw [List.getElem?_append_left hn] at e1
      rw [List.getElem?_append_left (by rw [← r.len]; exact hn)] at e2
      obtain ⟨ws, h1, h2⟩ := r.cell n a es e1 e2
      exact ⟨ws, by rw [upd_ne (ne_of_none h1 h)]; exact h1, h2.mono x⟩
    · have hn' : n = g.ρ.length := by
        have := (List.getElem?_eq_some_iff.mp e1).1
        rw [List.length_append] at this
        have h1 : ([p] : List Addr).length = 1 := rfl
        omega
      subst hn'
      rw [List.getElem?_append_right (Nat.le_refl _)] at e1
      rw [r.len, List.getElem?_append_right (Nat.le_refl _)] at e2
      simp at e1 e2
      subst e1 e2
      exact ⟨vs, upd_same, q.mono x⟩
/-- a cell is changed -/
theorem Ext.cellSet {a : Addr} (h : a ∈ g.ρ) (o : HO) : Ext g H g (upd H a o) :=
  ⟨rfl, ⟨[], by simp, fun _ z => nomatch z⟩, fun b u e n => by
    have q : b ≠ a := fun z => n (by rw [z]; exact h)
    rw [upd_ne q]; exact e, fun b u e => by
    by_cases q : b = a
    · rw [q]; exact ⟨o, upd_same⟩
    · rw [upd_ne q]; exact ⟨u, e⟩⟩
theorem RS.cellSet (r : RS k g H S) {n : Nat} {a : Addr} (e : g.ρ[n]? = some a) {vs : List V} {ds : List D} (q : RDs k g H vs ds) : RS k g (upd H a (.lst vs)) (S.set n (.lst ds)) := by
  have x := Ext.cellSet (g := g) (H := H) (List.mem_of_getElem? e) (.lst vs)
  refine ⟨by rw [List.length_set]; exact r.len, r.nd, fun b z => let ⟨o, h⟩ := r.fl b z; x.live b o h, r.dj, fun m b es e1 e2 => ?_⟩
  by_cases hm : m = n
  · subst hm
    have hb : b = a := Option.some.inj (e1.symm.trans e)
    subst hb
    have hs : m < S.length := by rw [← r.len]; exact (List.getElem?_eq_some_iff.mp e).1
    rw [List.getElem?_set_self hs] at e2
    have e3 : ds = es := by
      have := Option.some.inj e2
      exact MO.lst.inj this
    subst e3
    exact ⟨vs, upd_same, q.mono x⟩
  · rw [List.getElem?_set_ne (Ne.symm hm)] at e2
    obtain ⟨ws, h1, h2⟩ := r.cell m b es e1 e2
    have nb : b ≠ a := fun z => by
      subst z
      obtain ⟨h1, q1⟩ := List.getElem?_eq_some_iff.mp e1
      obtain ⟨h2, q2⟩ := List.getElem?_eq_some_iff.mp e
      exact hm ((List.getElem_inj r.nd).mp (q1.trans q2.symm))
    exact ⟨ws, by rw [upd_ne nb]; exact h1, h2.mono x⟩
end

/-! ### exceptions -/
inductive RF (k : Ka) (g : Gs) (H : Hp) : List (Str × V) → List (Str × P) → Prop
  | nil : RF k g H [] []
  | cons {n : Str} {v : V} {vs : List (Str × V)} {p : P} {ps : List (Str × P)} : RP k g H v p → RF k g H vs ps → RF k g H ((n, v) :: vs) ((n, p) :: ps)
def RX (k : Ka) (g : Gs) (H : Hp) (x : Ex) (cls : Value) (dd : Option Addr) : Prop :=
  ∃ C, k.cl x.c = some C ∧ cls = .ref C ∧ ((x.fs = [] ∧ dd = none) ∨ ∃ a vs, dd = some a ∧ H a = some (.xd vs) ∧ ¬ g.M a ∧ RF k g H vs x.fs)

/-! ### what is wanted behind a run of the evaluator -/
def Bk {α : Type} (k : Ka) (W : WX) (σ : Ls) (g : Gs) (H : Hp) : R α → (α → Sto → Gs → Hp → Prop) → Prop
  | .ok a S, Q => ∀ g' H', Ext g H g' H' → RS k g' H' S → Q a S g' H'
  | .ex x S, _ => ∀ g' H' cls dd, Ext g H g' H' → RS k g' H' S → RX k g' H' x cls dd → W cls dd σ H'
  | .bad, _ => False
section
variable {α β : Type} {k : Ka} {W : WX} {σ : Ls} {g g1 : Gs} {H H1 : Hp}
theorem Bk.mono {r : R α} {Q : α → Sto → Gs → Hp → Prop} (h : Bk k W σ g H r Q) (x : Ext g H g1 H1) : Bk k W σ g1 H1 r Q := by
  cases r with
  | ok a S => exact fun g' H' y rs => h g' H' (x.trans y) rs
  | ex z S => exact fun g' H' cls dd y rs rx => h g' H' cls dd (x.trans y) rs rx
  | bad => exact h
theorem Bk.imp {r : R α} {Q Q' : α → Sto → Gs → Hp → Prop} (h : Bk k W σ g H r Q) (i : ∀ a S g' H', Ext g H g' H' → RS k g' H' S → Q a S g' H' → Q' a S g' H') : Bk k W σ g H r Q' := by
  cases r with
  | ok a S => exact fun g' H' y rs => i a S g' H' y rs (h g' H' y rs)
  | ex z S => exact h
  | bad => exact h
theorem Bk.bind {r : R α} {f : α → Sto → R β} {Q : β → Sto → Gs → Hp → Prop} (h : Bk k W σ g H (r.bind f) Q) : Bk k W σ g H r fun a S g' H' => Bk k W σ g' H' (f a S) Q := by
  cases r with
  | ok a S => exact fun g' H' y _ => Bk.mono (show Bk k W σ g H (f a S) Q from h) y
  | ex z S => exact h
  | bad => exact h
theorem Bk.here {a : α} {S : Sto} {Q : α → Sto → Gs → Hp → Prop} (h : Bk k W σ g H (.ok a S) Q) (rs : RS k g H S) : Q a S g H := h g H .refl rs
end

/-! ### readings -/
def rdE (k : Ka) (W : WX) (f : Loc → Sto → R D) : TE := fun σ H Q => ∃ g L S, RL k g H σ L ∧ RS k g H S ∧ Bk k W σ g H (f L S) fun d _ g' H' => ∀ v, RD k g' H' v d → Q v H'
def rdT (k : Ka) (W : WX) (f : Loc → Sto → R Bool) : TT := fun σ H Q => ∃ g L S, RL k g H σ L ∧ RS k g H S ∧ Bk k W σ g H (f L S) fun b _ _ H' => Q b H'
def rdA (k : Ka) (W : WX) (f : Loc → Sto → R (List D)) : L2.TA := fun σ H Q => ∃ g L S, RL k g H σ L ∧ RS k g H S ∧ Bk k W σ g H (f L S) fun ds _ g' H' => ∀ vs, RDs k g' H' vs ds → Q vs H'

theorem PE.imp {X : Cx} {e : Expr} {t t' : TE} (h : PE X e t') (i : ∀ σ H Q, t σ H Q → t' σ H Q) : PE X e t := ⟨fun pins s σ H Q I q => h.run pins s σ H Q I (i σ H Q q)⟩
theorem PT.imp {X : Cx} {e : Expr} {t t' : TT} (h : PT X e t') (i : ∀ σ H Q, t σ H Q → t' σ H Q) : PT X e t := ⟨fun pins s σ H Q I q => h.run pins s σ H Q I (i σ H Q q)⟩
theorem PA.imp {X : Cx} {e : List Expr} {t t' : L2.TA} (h : PA X e t') (i : ∀ σ H Q, t σ H Q → t' σ H Q) : PA X e t := ⟨fun pos pins s σ H Q I q => h.run pos pins s σ H Q I (i σ H Q q)⟩
theorem PS.imp {X : Cx} {e : Stmt} {t t' : TS} (h : PS X e t') (i : ∀ D σ H, t D σ H → t' D σ H) : PS X e t := ⟨fun pins s σ H D I q => h.run pins s σ H D I (i D σ H q)⟩
theorem PSs.imp {X : Cx} {e : List Stmt} {t t' : TS} (h : PSs X e t') (i : ∀ D σ H, t D σ H → t' D σ H) : PSs X e t := ⟨fun pins s σ H D I q => h.run pins s σ H D I (i D σ H q)⟩
end Mn
/-! Mn4: expressions: each form of the evaluator against the hand layer's rule. -/
namespace Mn
open L2 PyProof.Rows PySem.Spec PySem

/-! ### side conditions of the text's form -/
def noStar : Expr → Bool
  | .Starred .. => false
  | _ => true
def noSlice : Expr → Bool
  | .Slice .. => false
  | _ => true
def plainTest : Expr → Bool
  | .UnaryOp .Not _ _ => false
  | .BoolOp .. => false
  | .IfExp .. => false
  | .Compare .. => false
  | _ => true
theorem star_of {e : Expr} (h : noStar e = true) (es : List Expr) (env : Env) : starEach (e :: es) env = (false, eval e env) :: starEach es env := by
  cases e <;> first | rfl | cases h
theorem plainIx_of {b : Expr} (h : noSlice b = true) : PlainIx b := fun o i => by
  cases b <;> first | rfl | cases h
theorem isTrue_of {e : Expr} (h : plainTest e = true) (env : Env) (whole : Sem Value) : isTrue e env whole = (do let v ← whole; standAt e.pos; holding [v] (truthy v)) := by
  cases e with
  | UnaryOp op x p => cases op <;> first | rfl | cases h
  | BoolOp => cases h
  | IfExp => cases h
  | Compare => cases h
  | _ => rfl

section
variable {X : Cx} {k : Ka} {W : WX}
/-! ### two, three in a row -/
def Fin2 (k : Ka) (W : WX) (σ : Ls) (F : D → D → Sto → R D) (Q : VK) : V → V → Hp → Prop := fun vx vy H => ∃ g x y S, RS k g H S ∧ RD k g H vx x ∧ RD k g H vy y ∧ Bk k W σ g H (F x y S) fun d _ g' H' => ∀ v, RD k g' H' v d → Q v H'
def Fin1 (k : Ka) (W : WX) (σ : Ls) (F : D → Sto → R D) (Q : VK) : V → Hp → Prop := fun vx H => ∃ g x S, RS k g H S ∧ RD k g H vx x ∧ Bk k W σ g H (F x S) fun d _ g' H' => ∀ v, RD k g' H' v d → Q v H'
theorem rd_two {fa fb : Loc → Sto → R D} {F : D → D → Sto → R D} {σ : Ls} {H : Hp} {Q : VK} (h : rdE k W (fun L S => (fa L S).bind fun x S1 => (fb L S1).bind fun y S2 => F x y S2) σ H Q) :
    rdE k W fa σ H fun vx H1 => rdE k W fb σ H1 fun vy H2 => Fin2 k W σ F Q vx vy H2 := by
  obtain ⟨g, L, S, rl, rs, b⟩ := h
  refine ⟨g, L, S, rl, rs, b.bind.imp fun x S1 g1 H1 e1 rs1 b1 vx rx => ⟨g1, L, S1, rl.mono e1, rs1, b1.bind.imp fun y S2 g2 H2 e2 rs2 b2 vy ry => ⟨g2, x, y, S2, rs2, rx.mono e2, ry, b2⟩⟩⟩
theorem rd_one {fa : Loc → Sto → R D} {F : D → Sto → R D} {σ : Ls} {H : Hp} {Q : VK} (h : rdE k W (fun L S => (fa L S).bind fun x S1 => F x S1) σ H Q) :
    rdE k W fa σ H fun vx H1 => Fin1 k W σ F Q vx H1 := by
  obtain ⟨g, L, S, rl, rs, b⟩ := h
  exact ⟨g, L, S, rl, rs, b.bind.imp fun x S1 g1 H1 e1 rs1 b1 vx rx => ⟨g1, x, S1, rs1, rx, b1⟩⟩
/-- a value as data -/
theorem RD.der {g : Gs} {H : Hp} {S : Sto} {d : D} {v : V} {p : P} (rs : RS k g H S) (r : RD k g H v d) (e : der S d = some p) : RP k g H v p ∨ ∃ a vs ps, v = .ref a ∧ p = .lst ps ∧ H a = some (.lst vs) ∧ RPs k g H vs ps := by
  cases d with
  | p x =>
    have e' : x = p := Option.some.inj e
    subst e'
    exact .inl r
  | ref n =>
    obtain ⟨a, rfl, h⟩ := r
    cases q : S[n]? with
    | none => simp [Mn.der, q] at e
    | some mo =>
      cases mo with
      | lst ds =>
        have e : (allP ds).map P.lst = some p := by simpa [Mn.der, q] using e
        cases q2 : allP ds with
        | none => rw [q2] at e; cases e
        | some ps =>
          rw [q2] at e
          have e' : P.lst ps = p := Option.some.inj e
          obtain ⟨vs, h1, h2⟩ := rs.cell n a ds h q
          exact .inr ⟨a, vs, ps, rfl, e'.symm, h1, h2.ofP q2⟩
/-- data as it can be read -/
def RR (k : Ka) (g : Gs) (H : Hp) (v : V) (p : P) : Prop := RP k g H v p ∨ ∃ a vs ps, v = .ref a ∧ p = .lst ps ∧ H a = some (.lst vs) ∧ RPs k g H vs ps
theorem RR.non {g : Gs} {H : Hp} {v : V} (h : RR k g H v .non) : v = .non := by
  rcases h with h | ⟨_, _, _, _, e, _⟩
  · cases h; rfl
  · cases e
theorem RR.bl {g : Gs} {H : Hp} {v : V} {b : Bool} (h : RR k g H v (.bl b)) : v = .bl b := by
  rcases h with h | ⟨_, _, _, _, e, _⟩
  · cases h; rfl
  · cases e
theorem RR.int {g : Gs} {H : Hp} {v : V} {i : Int} (h : RR k g H v (.int i)) : v = .int i := by
  rcases h with h | ⟨_, _, _, _, e, _⟩
  · cases h; rfl
  · cases e
theorem RR.str {g : Gs} {H : Hp} {v : V} {i : Str} (h : RR k g H v (.str i)) : v = .str i := by
  rcases h with h | ⟨_, _, _, _, e, _⟩
  · cases h; rfl
  · cases e
theorem RR.tup {g : Gs} {H : Hp} {v : V} {ps : List P} (h : RR k g H v (.tup ps)) : ∃ a vs, v = .ref a ∧ SqT k.K H a vs ∧ RPs k g H vs ps := by
  rcases h with h | ⟨_, _, _, _, e, _⟩
  · cases h with
    | tup t r => exact ⟨_, _, rfl, t.sq, r⟩
  · cases e
theorem RR.lst {g : Gs} {H : Hp} {v : V} {ps : List P} (h : RR k g H v (.lst ps)) : ∃ a vs, v = .ref a ∧ H a = some (.lst vs) ∧ RPs k g H vs ps := by
  rcases h with h | ⟨_, _, _, e1, e, h, r⟩
  · cases h with
    | lst t n r => exact ⟨_, _, rfl, t, r⟩
  · cases e
    exact ⟨_, _, e1, h, r⟩
theorem RR.scr {g : Gs} {H : Hp} {v : V} {ns : List Int} (h : RR k g H v (.scr ns)) : ∃ a, v = .ref a ∧ SqL k.K H a (ns.map V.int) := by
  rcases h with h | ⟨_, _, _, _, e, _⟩
  · cases h with
    | scr t => exact ⟨_, rfl, t.sq⟩
  · cases e
/-! data as the layer's == takes it -/
mutual
theorem RP.dp {g : Gs} {H : Hp} : ∀ {p : P} {v : V} {n : Nat}, RP k g H v p → dat n p = true → Dp k.K H v (toP p)
  | .non, _, _, h, _ => by cases h; exact .non
  | .bl b, _, _, h, _ => by cases h; exact .bl b
  | .int i, _, _, h, _ => by cases h; exact .int i
  | .str x, _, _, h, _ => by cases h; exact .str x
  | .tup ps, _, 0, h, e => by simp [dat] at e
  | .tup ps, _, n + 1, h, e => by
    cases h with
    | tup t r => exact .tup t.sq (RPs.dp r (n := n) (by simpa [dat] using e))
  | .lst ps, _, 0, h, e => by simp [dat] at e
  | .lst ps, _, n + 1, h, e => by
    cases h with
    | lst t m r => exact .lst (.inl (.inl t)) (RPs.dp r (n := n) (by simpa [dat] using e))
  | .fn _, _, _, h, _ => by cases h
  | .scr _, _, n, h, e => by cases n <;> simp [dat] at e
theorem RPs.dp {g : Gs} {H : Hp} : ∀ {ps : List P} {vs : List V} {n : Nat}, RPs k g H vs ps → dats n ps = true → DpAll k.K H vs (toPs ps)
  | [], _, _, h, _ => by cases h; exact .nil
  | p :: ps, _, n, h, e => by
    simp only [dats, Bool.and_eq_true] at e
    cases h with
    | cons a b => exact .cons (RP.dp a e.1) (RPs.dp b e.2)
end
theorem RR.dp {g : Gs} {H : Hp} {p : P} {v : V} (h : RR k g H v p) (e : dat 64 p = true) : Dp k.K H v (toP p) := by
  rcases h with h | ⟨a, vs, ps, rfl, rfl, h, r⟩
  · exact h.dp e
  · exact .lst (.inl (.inl h)) (r.dp (n := 63) (by simpa [dat] using e))
theorem okS_str {x : Str} (h : okS x = true) : PyData.canLay0 (.str x) = true := by
  show PyData.strOk x = true
  unfold PyData.strOk
  unfold okS at h
  rw [← Array.all_toList]
  rw [List.all_eq_true] at h ⊢
  intro c hc
  exact decide_eq_true (Nat.le_of_ble_eq_true (h c hc))
mutual
theorem dat_lay : ∀ {p : P} {n : Nat}, dat n p = true → PyData.canLay0 (toP p) = true ∧ PyData.depth (toP p) ≤ n
  | .non, _, _ => ⟨rfl, by simp [toP, PyData.depth]⟩
  | .bl b, _, _ => ⟨rfl, by simp [toP, PyData.depth]⟩
  | .int i, _, _ => ⟨rfl, by simp [toP, PyData.depth]⟩
  | .str x, n, h => ⟨okS_str (by cases n <;> simpa [dat] using h), by simp [toP, PyData.depth]⟩
  | .tup ps, 0, e => by simp [dat] at e
  | .tup ps, n + 1, e => by
    have := dats_lay (ps := ps) (n := n) (by simpa [dat] using e)
    exact ⟨by simpa [toP, PyData.canLay0] using this.1, by simp only [toP, PyData.depth]; omega⟩
  | .lst ps, 0, e => by simp [dat] at e
  | .lst ps, n + 1, e => by
    have := dats_lay (ps := ps) (n := n) (by simpa [dat] using e)
    exact ⟨by simpa [toP, PyData.canLay0] using this.1, by simp only [toP, PyData.depth]; omega⟩
  | .fn _, _, _ => ⟨rfl, by simp [toP, PyData.depth]⟩
  | .scr _, n, e => by cases n <;> simp [dat] at e
theorem dats_lay : ∀ {ps : List P} {n : Nat}, dats n ps = true → PyData.canLayAll0 (toPs ps) = true ∧ PyData.depthAll (toPs ps) ≤ n
  | [], _, _ => ⟨rfl, by simp [toPs, PyData.depthAll]⟩
  | p :: ps, n, e => by
    simp only [dats, Bool.and_eq_true] at e
    have h1 := dat_lay e.1
    have h2 := dats_lay e.2
    refine ⟨by simp only [toPs, PyData.canLayAll0, h1.1, h2.1, Bool.and_self], ?_⟩
    simp only [toPs, PyData.depthAll]
    omega
end
theorem dat_shaped {p : P} (h : dat 64 p = true) : SeqAt.shaped (toP p) = true := by
  obtain ⟨h1, h2⟩ := dat_lay h
  unfold SeqAt.shaped
  rw [h1, decide_eq_true h2]; rfl
end
end Mn
/-! Mn5: operators, comparisons, items, slices by values. -/
namespace Mn
open L2 PyProof.Rows PySem.Spec PySem
/-- what is wanted of a value and a store -/
def Want (k : Ka) (g : Gs) (H : Hp) (S : Sto) (d : D) (Q : VK) : Prop := ∀ g' H', Ext g H g' H' → RS k g' H' S → ∀ v, RD k g' H' v d → Q v H'
section
variable {X : Cx} {k : Ka} {g : Gs} {H : Hp} {S : Sto} {Q : VK}
theorem Want.at {d : D} (h : Want k g H S d Q) (rs : RS k g H S) {v : V} (r : RD k g H v d) : Q v H := h g H .refl rs v r
theorem Want.bl {b : Bool} (h : Want k g H S (.p (.bl b)) Q) (rs : RS k g H S) : Q (.bl b) H := h.at rs (RP.bl b)
theorem Want.int {b : Int} (h : Want k g H S (.p (.int b)) Q) (rs : RS k g H S) : Q (.int b) H := h.at rs (RP.int b)
theorem Want.str {b : Str} (h : Want k g H S (.p (.str b)) Q) (rs : RS k g H S) : Q (.str b) H := h.at rs (RP.str b)
theorem Want.tup {ps : List P} {vs : List V} (h : Want k g H S (.p (.tup ps)) Q) (rs : RS k g H S) (r : RPs k g H vs ps) : ∀ p, H p = none → Q (.ref p) (upd H p (.tup vs)) :=
  fun p n => h _ _ (Ext.laid rs n _) (rs.laid n _) _ (RP.newTup rs n r)
theorem Want.lst {ps : List P} {vs : List V} (h : Want k g H S (.p (.lst ps)) Q) (rs : RS k g H S) (r : RPs k g H vs ps) : ∀ p, H p = none → Q (.ref p) (upd H p (.lst vs)) :=
  fun p n => h _ _ (Ext.laid rs n _) (rs.laid n _) _ (RP.newLst rs n r)
theorem Want.cell {ds : List D} {vs : List V} (h : Want k g H (S ++ [.lst ds]) (.ref S.length) Q) (rs : RS k g H S) (r : RDs k g H vs ds) : ∀ p, H p = none → Q (.ref p) (upd H p (.lst vs)) :=
  fun p n => h (g.add p) _ (Ext.cell rs n _) (rs.cellNew n r) _ ⟨p, rfl, by
    show (g.ρ ++ [p])[S.length]? = some p
    rw [← rs.len, List.getElem?_append_right (Nat.le_refl _)]
    simp⟩
theorem RPs.nil_of {vs : List V} {ps : List P} (r : RPs k g H vs ps) (e : vs = []) : ps = [] := by
  have h := r.length
  rw [e] at h
  exact List.length_eq_zero_iff.mp h.symm
theorem RR.rp {v : V} {ps : List P} (h : RR k g H v (.tup ps)) : RP k g H v (.tup ps) := by
  rcases h with h | ⟨_, _, _, _, e, _⟩
  · exact h
  · cases e
theorem line_eq : line = sizeLine := by rw [sizeLine_eq]; rfl

/-! ### operators -/
theorem mulOk_ok {i j : Int} (h : mulOk i j = true) : IntMulOk i j := by
  have b : ∀ x : Int, Builtin.Int.intBits x ≤ x.natAbs.log2 + 1 := fun x => by
    unfold Builtin.Int.intBits
    split <;> omega
  have h1 := b i
  have h2 := b j
  have h3 : i.natAbs.log2 + j.natAbs.log2 < 134217726 := Nat.le_of_ble_eq_true h
  unfold IntMulOk
  intro z
  have z2 := (Bool.and_eq_true_iff.mp z).2
  unfold Builtin.Int.intTooBig at z2
  have z3 := of_decide_eq_true z2
  have e : bitsLine = 134217728 := by decide
  rw [e] at z3
  omega
theorem op_mulV : OpR X (binaryOp .Mult) (rI (fun i j => mulOk i j = true) fun i j => .int (i * j)) := opI fun _ _ _ _ _ _ _ hc q => mul_int q (mulOk_ok hc)
theorem op_powV : OpR X (binaryOp .Pow) (rI (fun i j => powOk i j = true) fun i j => .int (i ^ j.toNat)) := opI fun i j _ _ _ _ _ hc q => by
  unfold powOk at hc
  obtain ⟨h1, h2⟩ := Bool.and_eq_true_iff.mp hc
  have h0 : 0 ≤ j := of_decide_eq_true h1
  have h3 := Nat.le_of_ble_eq_true h2
  refine PyProof.Rows.pow_int h0 ?_ q
  have b : Builtin.Int.intBits i ≤ i.natAbs.log2 + 1 := by
    unfold Builtin.Int.intBits
    split <;> omega
  have e : (j.toNat : Int) = j := Int.toNat_of_nonneg h0
  have h4 : Builtin.Int.intBits i * j.toNat ≤ 134217728 := Nat.le_trans (Nat.mul_le_mul_right _ b) h3
  have h5 : ((Builtin.Int.intBits i * j.toNat : Nat) : Int) ≤ ((134217728 : Nat) : Int) := Int.ofNat_le.mpr h4
  rw [Int.natCast_mul, e] at h5
  exact Int.le_trans h5 (by decide)
theorem op_fdivV : OpR X (binaryOp .FloorDiv) (rI (fun i j => fdivOk i j = true) fun i j => .int (i / j)) := opI fun i j _ _ _ _ _ hc q => by
  unfold fdivOk at hc
  obtain ⟨h1, h2⟩ := Bool.and_eq_true_iff.mp hc
  have h0 : 0 < j := of_decide_eq_true h1
  exact floordiv_int (by omega) (by rw [Int.fdiv_eq_ediv_of_nonneg i (by omega)]; exact q) (.inl ((Bool.not_eq_true' _).mp h2))
def opB : Operator → Option Bo
  | .Add => some .add
  | .Sub => some .sub
  | .Mult => some .mul
  | .FloorDiv => some .fdiv
  | .Mod => some .mod
  | .Pow => some .pow
  | _ => none
/-- two data, an operator: the hand layer's rule, its reading from what is wanted -/
theorem bin_rule {op : Operator} {o : Bo} (ho : opB op = some o) (hK : X.K = k.K) : ∃ r, OpR X (binaryOp op) r ∧
    ∀ {g H S Q p q z vx vy}, bin o p q = some z → RS k g H S → RR k g H vx p → RR k g H vy q → Want k g H S (.p z) Q → r vx vy H Q := by
  cases op <;> simp [opB] at ho <;> subst ho
  case Add =>
    refine ⟨_, op_add.or (op_add_str.or (op_catA.or op_cat)), fun {g H S Q p q z vx vy} e rs rx ry w => ?_⟩
    cases p <;> cases q <;> simp [bin] at e
    case int.int i j =>
      subst e
      exact .inl ⟨i, j, rx.int, ry.int, w.int rs⟩
    case str.str x y =>
      obtain ⟨h, rfl⟩ := e
      exact .inr (.inl ⟨x, y, rx.str, ry.str, by rw [← line_eq]; exact h, w.str rs⟩)
    case tup.tup xs ys =>
      obtain ⟨h, rfl⟩ := e
      obtain ⟨a, vs, rfl, ha, r1⟩ := rx.tup
      obtain ⟨b, ws, rfl, hb, r2⟩ := ry.tup
      refine .inr (.inr (.inl ⟨a, b, vs, ws, rfl, rfl, by rw [hK]; exact ha, by rw [hK]; exact hb, by rw [r1.length, r2.length, ← line_eq]; exact h, fun e => ?_, fun _ e => ?_, fun _ _ => w.tup rs (r1.append r2)⟩))
      · have e1 : xs = [] := r1.nil_of e
        subst e1
        exact w.at rs ry.rp
      · have e1 : ys = [] := r2.nil_of e
        subst e1
        rw [List.append_nil] at w
        exact w.at rs rx.rp
    case lst.lst xs ys =>
      obtain ⟨h, rfl⟩ := e
      obtain ⟨a, vs, rfl, ha, r1⟩ := rx.lst
      obtain ⟨b, ws, rfl, hb, r2⟩ := ry.lst
      exact .inr (.inr (.inr ⟨a, b, vs, ws, rfl, rfl, ha, hb, by rw [r1.length, r2.length, ← line_eq]; exact h, w.lst rs (r1.append r2)⟩))
  case Sub =>
    refine ⟨_, op_sub, fun {g H S Q p q z vx vy} e rs rx ry w => ?_⟩
    cases p <;> cases q <;> simp [bin] at e
    subst e
    exact ⟨_, _, rx.int, ry.int, w.int rs⟩
  case Mult =>
    refine ⟨_, op_mulV, fun {g H S Q p q z vx vy} e rs rx ry w => ?_⟩
    cases p <;> cases q <;> simp [bin] at e
    obtain ⟨h, rfl⟩ := e
    exact ⟨_, _, rx.int, ry.int, h, w.int rs⟩
  case FloorDiv =>
    refine ⟨_, op_fdivV, fun {g H S Q p q z vx vy} e rs rx ry w => ?_⟩
    cases p <;> cases q <;> simp [bin] at e
    obtain ⟨h, rfl⟩ := e
    exact ⟨_, _, rx.int, ry.int, h, w.int rs⟩
  case Mod =>
    refine ⟨_, op_mod, fun {g H S Q p q z vx vy} e rs rx ry w => ?_⟩
    cases p <;> cases q <;> simp [bin] at e
    obtain ⟨h, rfl⟩ := e
    exact ⟨_, _, rx.int, ry.int, h, w.int rs⟩
  case Pow =>
    refine ⟨_, op_powV, fun {g H S Q p q z vx vy} e rs rx ry w => ?_⟩
    cases p <;> cases q <;> simp [bin] at e
    obtain ⟨h, rfl⟩ := e
    exact ⟨_, _, rx.int, ry.int, h, w.int rs⟩

/-! ### comparisons -/
def opC : CmpOp → Co
  | .Eq => .eq
  | .NotEq => .ne
  | .Lt => .lt
  | .LtE => .le
  | .Gt => .gt
  | .GtE => .ge
  | .Is => .is
  | .IsNot => .isn
  | .In => .inn
  | .NotIn => .nin
def rInT (K : PySem.W.Frag) (neg : Bool) : R2 := fun x y H Q => ∃ d ds, Dp K H x d ∧ (Dp K H y (.list ds) ∨ Dp K H y (.tuple ds)) ∧ SeqAt.shaped d = true ∧ SeqAt.shaped (.list ds) = true ∧ Q (.bl (if neg then !ds.any fun z => PyData.eqv z d else ds.any fun z => PyData.eqv z d)) H
theorem shaped_tup {ds : List PyData} (h : SeqAt.shaped (.list ds) = true) : SeqAt.shaped (.tuple ds) = true := by
  simpa [SeqAt.shaped, PyData.canLay0, PyData.depth] using h
theorem op_inT (hu : X.A.units + 65 < cLine) : OpR X (compareOp .In) (rInT X.K false) := by
  intro pins s σ H x y v u Q I rx ry h
  obtain ⟨d, ds, hd, he, sd, se, q⟩ := h
  obtain ⟨as, r1⟩ := Dp.reads I d x v hd rx
  rcases he with he | he
  · obtain ⟨bs, r2⟩ := Dp.reads I (.list ds) y u he ry
    exact SeqAt.in_list_reads r2 r1 (SeqAt.canLay_of_shaped se) (SeqAt.canLay_of_shaped sd) (room_in_shaped sd hu) ⟨.bl _, H, I, rfl, q⟩
  · obtain ⟨bs, r2⟩ := Dp.reads I (.tuple ds) y u he ry
    exact SeqAt.in_tuple_reads r2 r1 (SeqAt.canLay_of_shaped (shaped_tup se)) (SeqAt.canLay_of_shaped sd) (room_in_shaped sd hu) ⟨.bl _, H, I, rfl, q⟩
theorem op_ninT (hu : X.A.units + 65 < cLine) : OpR X (compareOp .NotIn) (rInT X.K true) := by
  intro pins s σ H x y v u Q I rx ry h
  obtain ⟨d, ds, hd, he, sd, se, q⟩ := h
  obtain ⟨as, r1⟩ := Dp.reads I d x v hd rx
  rcases he with he | he
  · obtain ⟨bs, r2⟩ := Dp.reads I (.list ds) y u he ry
    exact SeqAt.notIn_list_reads r2 r1 (SeqAt.canLay_of_shaped se) (SeqAt.canLay_of_shaped sd) (room_in_shaped sd hu) ⟨.bl _, H, I, rfl, q⟩
  · obtain ⟨bs, r2⟩ := Dp.reads I (.tuple ds) y u he ry
    exact SeqAt.notIn_tuple_reads r2 r1 (SeqAt.canLay_of_shaped (shaped_tup se)) (SeqAt.canLay_of_shaped sd) (room_in_shaped sd hu) ⟨.bl _, H, I, rfl, q⟩
theorem RR.non_iff {v : V} {p : P} (h : RR k g H v p) : decide (v = .non) = isNon p := by
  rcases h with h | ⟨a, vs, ps, rfl, rfl, _, _⟩
  · cases h <;> first | rfl | exact decide_eq_false (fun z => nomatch z)
  · exact decide_eq_false (fun z => nomatch z)
theorem dats_shaped {ps : List P} (h : dats 63 ps = true) : SeqAt.shaped (.list (toPs ps)) = true := by
  have := dat_shaped (p := .lst ps) (by simpa [dat] using h)
  simpa [toP] using this
theorem inO_spec {vx vy : V} {p q : P} {b : Bool} (e : inO p q = some b) (rx : RR k g H vx p) (ry : RR k g H vy q) :
    (∃ d ds, Dp k.K H vx d ∧ (Dp k.K H vy (.list ds) ∨ Dp k.K H vy (.tuple ds)) ∧ SeqAt.shaped d = true ∧ SeqAt.shaped (.list ds) = true ∧ (ds.any fun z => PyData.eqv z d) = b) ∨
    ∃ (c : Nat) (z : Str), vx = .str ⟨#[c]⟩ ∧ vy = .str z ∧ decide (c ∈ z.cps.toList) = b := by
  unfold inO at e
  split at e
  · rename_i ys
    split at e
    · rename_i hd
      obtain ⟨h1, h2⟩ := Bool.and_eq_true_iff.mp hd
      have hy := ry.dp (p := .tup ys) (by simpa [dat] using h2)
      exact .inl ⟨_, _, rx.dp h1, .inr (by simpa [toP] using hy), dat_shaped h1, dats_shaped h2, Option.some.inj e⟩
    · cases e
  · rename_i ys
    split at e
    · rename_i hd
      obtain ⟨h1, h2⟩ := Bool.and_eq_true_iff.mp hd
      have hy := ry.dp (p := .lst ys) (by simpa [dat] using h2)
      exact .inl ⟨_, _, rx.dp h1, .inl (by simpa [toP] using hy), dat_shaped h1, dats_shaped h2, Option.some.inj e⟩
    · cases e
  · rename_i x y
    split at e
    · rename_i c hc
      refine .inr ⟨c, y, ?_, ry.str, Option.some.inj e⟩
      rw [rx.str]
      congr 1
      obtain ⟨⟨l⟩⟩ := x
      simp only at hc
      rw [hc]
    · cases e
  · cases e
theorem cmp_rule (op : CmpOp) (hK : X.K = k.K) (hu : X.A.units + 65 < cLine) : ∃ r, OpR X (compareOp op) r ∧
    ∀ {g H S Q p q b vx vy}, cmpo (opC op) p q = some b → RS k g H S → RR k g H vx p → RR k g H vy q → Q (.bl b) H → r vx vy H Q := by
  cases op <;> simp only [opC]
  case Eq =>
    refine ⟨_, op_eq.or (op_eqD (by omega)), fun {g H S Q p q b vx vy} e rs rx ry w => ?_⟩
    simp only [cmpo] at e
    unfold eqO at e
    split at e
    · rename_i x y
      have hx := rx.str
      have hy := ry.str
      subst hx hy
      refine .inl ⟨rfl, ?_⟩
      rw [dec_str, Bool.beq_eq_decide_eq]
      have e' := Option.some.inj e
      subst e'
      exact w
    · unfold eqD at e
      split at e
      · rename_i hd
        obtain ⟨h1, h2⟩ := Bool.and_eq_true_iff.mp hd
        have e' := Option.some.inj e
        subst e'
        exact .inr ⟨_, _, by rw [hK]; exact rx.dp h1, by rw [hK]; exact ry.dp h2, dat_shaped h1, dat_shaped h2, w⟩
      · cases e
  case NotEq =>
    refine ⟨_, op_ne.or (op_neD (by omega)), fun {g H S Q p q b vx vy} e rs rx ry w => ?_⟩
    simp only [cmpo] at e
    unfold eqO at e
    split at e
    · rename_i x y
      have hx := rx.str
      have hy := ry.str
      subst hx hy
      refine .inl ⟨rfl, ?_⟩
      rw [dec_str, Bool.beq_eq_decide_eq]
      have e' := Option.some.inj e
      subst e'
      exact w
    · unfold eqD at e
      split at e
      · rename_i hd
        obtain ⟨h1, h2⟩ := Bool.and_eq_true_iff.mp hd
        have e' := Option.some.inj e
        subst e'
        exact .inr ⟨_, _, by rw [hK]; exact rx.dp h1, by rw [hK]; exact ry.dp h2, dat_shaped h1, dat_shaped h2, w⟩
      · cases e
  case Lt =>
    refine ⟨_, op_lt.or op_lt_str, fun {g H S Q p q b vx vy} e rs rx ry w => ?_⟩
    cases p <;> cases q <;> simp only [cmpo] at e <;> first | (cases e; done) | skip
    · have e' := Option.some.inj e; subst e'
      exact .inl ⟨_, _, rx.int, ry.int, w⟩
    · have e' := Option.some.inj e; subst e'
      exact .inr ⟨_, _, rx.str, ry.str, w⟩
  case LtE =>
    refine ⟨_, op_le.or op_le_str, fun {g H S Q p q b vx vy} e rs rx ry w => ?_⟩
    cases p <;> cases q <;> simp only [cmpo] at e <;> first | (cases e; done) | skip
    · have e' := Option.some.inj e; subst e'
      exact .inl ⟨_, _, rx.int, ry.int, w⟩
    · have e' := Option.some.inj e; subst e'
      exact .inr ⟨_, _, rx.str, ry.str, w⟩
  case Gt =>
    refine ⟨_, op_gt.or op_gt_str, fun {g H S Q p q b vx vy} e rs rx ry w => ?_⟩
    cases p <;> cases q <;> simp only [cmpo] at e <;> first | (cases e; done) | skip
    · have e' := Option.some.inj e; subst e'
      exact .inl ⟨_, _, rx.int, ry.int, w⟩
    · have e' := Option.some.inj e; subst e'
      exact .inr ⟨_, _, rx.str, ry.str, w⟩
  case GtE =>
    refine ⟨_, op_ge.or op_ge_str, fun {g H S Q p q b vx vy} e rs rx ry w => ?_⟩
    cases p <;> cases q <;> simp only [cmpo] at e <;> first | (cases e; done) | skip
    · have e' := Option.some.inj e; subst e'
      exact .inl ⟨_, _, rx.int, ry.int, w⟩
    · have e' := Option.some.inj e; subst e'
      exact .inr ⟨_, _, rx.str, ry.str, w⟩
  case Is =>
    refine ⟨_, op_isN, fun {g H S Q p q b vx vy} e rs rx ry w => ?_⟩
    cases q <;> simp only [cmpo] at e <;> first | (cases e; done) | skip
    refine ⟨ry.non, ?_⟩
    rw [rx.non_iff, Option.some.inj e]; exact w
  case IsNot =>
    refine ⟨_, op_notN, fun {g H S Q p q b vx vy} e rs rx ry w => ?_⟩
    cases q <;> simp only [cmpo] at e <;> first | (cases e; done) | skip
    refine ⟨ry.non, ?_⟩
    rw [rx.non_iff, Option.some.inj e]; exact w
  case In =>
    refine ⟨_, (op_inT hu).or op_in_sign, fun {g H S Q p q b vx vy} e rs rx ry w => ?_⟩
    simp only [cmpo] at e
    rcases inO_spec e rx ry with ⟨d, ds, h1, h2, h3, h4, h5⟩ | ⟨c, z, h1, h2, h3⟩
    · exact .inl ⟨d, ds, by rw [hK]; exact h1, by rw [hK]; exact h2, h3, h4, by simpa [h5] using w⟩
    · exact .inr ⟨c, z, h1, h2, by rw [h3]; exact w⟩
  case NotIn =>
    refine ⟨_, (op_ninT hu).or op_notIn_sign, fun {g H S Q p q b vx vy} e rs rx ry w => ?_⟩
    simp only [cmpo] at e
    obtain ⟨b', e', rfl⟩ := Option.map_eq_some_iff.mp e
    rcases inO_spec e' rx ry with ⟨d, ds, h1, h2, h3, h4, h5⟩ | ⟨c, z, h1, h2, h3⟩
    · exact .inl ⟨d, ds, by rw [hK]; exact h1, by rw [hK]; exact h2, h3, h4, by simpa [h5] using w⟩
    · exact .inr ⟨c, z, h1, h2, by rw [h3]; exact w⟩
/-- truth -/
theorem tru_spec {v : V} {p : P} {b : Bool} (e : tru p = some b) (r : RR k g H v p) : TruV k.K v H b := by
  cases p <;> simp only [tru] at e <;> first | (cases e; done) | skip
  · rw [r.non]; exact (Option.some.inj e).symm
  · rw [r.bl]; exact (Option.some.inj e).symm
  · rw [r.int]; exact (Option.some.inj e).symm
  · rw [r.str]
    split at e
    · rename_i h
      refine ⟨by rw [← line_eq]; exact h, ?_⟩
      rw [← Option.some.inj e]
      rename_i x
      generalize x.length = n
      cases n with
      | zero => rfl
      | succ m =>
        have h1 : (m + 1 != 0) = true := by simp
        have h2 : (((m + 1 : Nat) : Int) != 0) = true := by
          rw [bne_iff_ne]; omega
        rw [h1, h2]
    · cases e
  · obtain ⟨a, vs, rfl, ha, r1⟩ := r.tup
    refine .inr (.inl ⟨vs, ha, ?_⟩)
    rw [← Option.some.inj e]
    cases r1 <;> rfl
  · obtain ⟨a, vs, rfl, ha, r1⟩ := r.lst
    refine .inl ⟨vs, .inl (.inl ha), ?_⟩
    rw [← Option.some.inj e]
    cases r1 <;> rfl

/-! ### items, slices -/
theorem ixN_eq (n : Nat) (i : Int) : Mn.ixN n i = L2.ixN n i := rfl
theorem item_ix : IxR X (rIx X.K) := ix_seq
theorem item_spec {p q z : P} {vx vy : V} (hK : X.K = k.K) (e : item p q = some z) (rs : RS k g H S) (rx : RP k g H vx p) (ry : RP k g H vy q) (w : Want k g H S (.p z) Q) : rIx X.K vx vy H Q := by
  cases q <;> cases p <;> simp only [item] at e <;> first | (cases e; done) | skip
  · -- a text
    rename_i i x
    split at e
    · rename_i hl
      obtain ⟨j, h1, h2⟩ := Option.bind_eq_some_iff.mp e
      obtain ⟨c, h3, rfl⟩ := Option.map_eq_some_iff.mp h2
      cases rx
      cases ry
      refine .inr (.inr ⟨x, i, c, rfl, rfl, by rw [← line_eq]; exact hl, ?_, w.str rs⟩)
      show (L2.ixN x.cps.toList.length i).bind _ = _
      rw [← ixN_eq, h1]; exact h3
    · cases e
  · rename_i i ps
    obtain ⟨j, h1, h2⟩ := Option.bind_eq_some_iff.mp e
    cases rx with
    | tup t r =>
      cases ry
      obtain ⟨v, e1, r1⟩ := r.get h2
      refine .inr (.inl ⟨_, _, i, v, rfl, rfl, by rw [hK]; exact t.sq, ?_, w.at rs r1⟩)
      show (L2.ixN _ i).bind _ = _
      rw [r.length, ← ixN_eq, h1]; exact e1
  · rename_i i ps
    obtain ⟨j, h1, h2⟩ := Option.bind_eq_some_iff.mp e
    cases rx with
    | lst t _ r =>
      cases ry
      obtain ⟨v, e1, r1⟩ := r.get h2
      refine .inl ⟨_, _, i, v, rfl, rfl, .inl (.inl t), ?_, w.at rs r1⟩
      show (L2.ixN _ i).bind _ = _
      rw [r.length, ← ixN_eq, h1]; exact e1
  · rename_i i ns
    obtain ⟨j, h1, h2⟩ := Option.bind_eq_some_iff.mp e
    obtain ⟨m, h3, rfl⟩ := Option.map_eq_some_iff.mp h2
    cases rx with
    | scr t =>
      cases ry
      refine .inl ⟨_, _, i, .int m, rfl, rfl, by rw [hK]; exact t.sq, ?_, w.int rs⟩
      show (L2.ixN _ i).bind _ = _
      rw [List.length_map, ← ixN_eq, h1]
      show (ns.map V.int)[j]? = _
      rw [List.getElem?_map, h3]; rfl
theorem item_cell {n j : Nat} {i : Int} {ds : List D} {d : D} {vx vy : V} (rs : RS k g H S) (rx : RD k g H vx (.ref n)) (ry : RD k g H vy (.p (.int i))) (hc : S[n]? = some (MO.lst ds)) (h1 : Mn.ixN ds.length i = some j) (h2 : ds[j]? = some d)
    (w : Want k g H S d Q) : rIx X.K vx vy H Q := by
  obtain ⟨a, rfl, e⟩ := rx
  obtain ⟨vs, h3, h4⟩ := rs.cell n a ds e hc
  cases (show RP k g H vy (.int i) from ry)
  obtain ⟨v, e1, r1⟩ := h4.get h2
  refine .inl ⟨_, _, i, v, rfl, rfl, .inl (.inl h3), ?_, w.at rs r1⟩
  show (L2.ixN _ i).bind _ = _
  rw [h4.length, ← ixN_eq, h1]; exact e1
end
end Mn
/-! Mn6: the built-in functions by values. -/
namespace Mn
open L2 PyProof.Rows PySem.Spec PySem
/-! ### the length of a text of data -/
theorem int_txt {i : Int} (h : i.natAbs.log2 < 1920) : (toString i : Str).length ≤ 1921 := PyProof.Rows.int_text_len_1921 h
theorem okS_repr {x : Str} (h : okS x = true) : (reprText x).length ≤ 10 * x.length + 2 := by
  refine StrLaws.reprText_len x fun c hc => ?_
  unfold okS at h
  have := Nat.le_of_ble_eq_true (List.all_eq_true.mp h c hc)
  have e : (16 : Nat) ^ 8 = 4294967296 := by decide
  omega
theorem tupT_le (ts : List Str) : (tupleText ts).length ≤ piled ts + 3 := by
  unfold tupleText
  rw [strLen_append, strLen_append]
  have e1 : ((("(" : String) : Str)).length = 1 := rfl
  have e3 : (((if ts.length == 1 then ",)" else ")" : String) : Str)).length ≤ 2 := by split <;> decide
  rw [e1]
  cases ts with
  | nil =>
    have : (Str.join ", " []).length = 0 := rfl
    omega
  | cons t r =>
    have := join_length_add (t :: r) (by simp)
    omega
theorem lstT_le : ∀ ts : List Str, (listText ts).length ≤ piled ts + 3
  | [] => by decide
  | t :: r => by
    have h := textFrom_length_pos r 1 (("[" : Str) ++ (if (0 : Nat) > 0 then ", " else "" : String) ++ t) (Nat.succ_pos 0)
    have e : ((("[" : Str) ++ (if (0 : Nat) > 0 then ", " else "" : String) ++ t)).length = 1 + t.length := by
      rw [strLen_append, strLen_append]; rfl
    have a : (listText (t :: r)).length = (textFrom 1 (("[" : Str) ++ (if (0 : Nat) > 0 then ", " else "" : String) ++ t) r).length + 1 := by
      unfold listText
      rw [strLen_append]
      rfl
    rw [a, h, e, piled_cons]
    omega
mutual
theorem txt_len : ∀ {p : P} {n m : Nat}, txt p = some n → dat m p = true → (PyData.shown (toP p)).length ≤ n ∧ PyData.showable (toP p) = true
  | .non, n, _, h, _ => by
    have e := Option.some.inj h
    subst e
    exact ⟨by decide +kernel, rfl⟩
  | .bl b, n, _, h, _ => by
    have e := Option.some.inj h
    subst e
    exact ⟨by cases b <;> decide +kernel, rfl⟩
  | .int i, n, _, h, _ => by
    unfold txt at h
    split at h
    · rename_i hl
      have e := Option.some.inj h
      subst e
      exact ⟨int_txt hl, by simpa [toP, PyData.showable] using hl⟩
    · cases h
  | .str x, n, m, h, hd => by
    have e := Option.some.inj h
    subst e
    exact ⟨okS_repr (by cases m <;> simpa [dat] using hd), rfl⟩
  | .tup ps, n, m, h, hd => by
    unfold txt at h
    obtain ⟨b, hb, rfl⟩ := Option.map_eq_some_iff.mp h
    cases m with
    | zero => simp [dat] at hd
    | succ m =>
      obtain ⟨h1, h2⟩ := txts_len hb (m := m) (by simpa [dat] using hd)
      refine ⟨?_, by simpa [toP, PyData.showable] using h2⟩
      simp only [toP, PyData.shown]
      exact Nat.le_trans (tupT_le _) (by omega)
  | .lst ps, n, m, h, hd => by
    unfold txt at h
    obtain ⟨b, hb, rfl⟩ := Option.map_eq_some_iff.mp h
    cases m with
    | zero => simp [dat] at hd
    | succ m =>
      obtain ⟨h1, h2⟩ := txts_len hb (m := m) (by simpa [dat] using hd)
      refine ⟨?_, by simpa [toP, PyData.showable] using h2⟩
      simp only [toP, PyData.shown]
      exact Nat.le_trans (lstT_le _) (by omega)
  | .fn _, _, _, h, _ => by cases h
  | .scr _, _, _, h, _ => by cases h
theorem txts_len : ∀ {ps : List P} {n m : Nat}, txts ps = some n → dats m ps = true → piled (PyData.shownAll (toPs ps)) ≤ n ∧ PyData.showableAll (toPs ps) = true
  | [], n, _, h, _ => ⟨Nat.zero_le _, rfl⟩
  | p :: ps, n, m, h, hd => by
    simp only [dats, Bool.and_eq_true] at hd
    unfold txts at h
    split at h
    · rename_i a b h1 h2
      have e := Option.some.inj h
      subst e
      obtain ⟨q1, q2⟩ := txt_len h1 hd.1
      obtain ⟨q3, q4⟩ := txts_len h2 hd.2
      refine ⟨?_, by simp only [toPs, PyData.showableAll, q2, q4, Bool.and_self]⟩
      simp only [toPs, PyData.shownAll, piled_cons]
      omega
    · cases h
end
section
variable {X : Cx} {k : Ka}
theorem Dp.noDict {K : PySem.W.Frag} {H : Hp} : ∀ {d : PyData} {v : V}, Dp K H v d → PyData.canLay0 d = true → d.hasDict = false := fun _ h => PyData.hasDict_of_canLay _ h
/-- repr of data -/
def rRepr (K : PySem.W.Frag) : List V → Hp → VK → Prop := fun xs H Q => ∃ x d, xs = [x] ∧ Dp K H x d ∧ SeqAt.shaped d = true ∧ d.showable = true ∧ d.shown.length ≤ sizeLine ∧ Q (.str d.shown) H
theorem call_repr (hg : X.A.guards = some []) (hu : X.A.units + 66 < cLine) : CallR X (.builtin "repr") (rRepr X.K) := by
  intro pins s σ H xs us Q I r h
  obtain ⟨x, d, rfl, hd, hs, hw, hz, q⟩ := h
  obtain ⟨u, rfl, ru⟩ := vals1 r
  obtain ⟨as, rd⟩ := Dp.reads I d x u hd ru
  have hnd := PyData.hasDict_of_canLay d (SeqAt.canLay_of_shaped hs)
  have hdp := SeqAt.depth_of_shaped hs
  have scal : ∀ y : Str, y = d.shown → Q (.str y) H := fun y e => e ▸ q
  cases hd with
  | non => cases (show u = Value.none from ru); exact PySem.P.repr_of_none ⟨.str _, H, I.tok _, ⟨_, rfl⟩, scal _ rfl⟩
  | bl b => cases (show u = Value.bool b from ru); exact PySem.P.repr_of_bool ⟨.str _, H, I.tok _, ⟨_, rfl⟩, scal _ rfl⟩
  | int i =>
    obtain ⟨t, rfl⟩ := (show ∃ t, u = Value.int i t from ru)
    exact PySem.P.repr_of_int (by simpa [PyData.showable] using hw) ⟨.str _, H, I.tok _, ⟨_, rfl⟩, scal _ rfl⟩
  | str y =>
    obtain ⟨t, rfl⟩ := (show ∃ t, u = Value.str y t from ru)
    exact PySem.P.repr_of_str (h := ⟨.str _, H, I.tok _, ⟨_, rfl⟩, scal _ rfl⟩) (hsz := hz)
  | lst _ _ =>
    rename_i a _ _ _ _
    cases (show u = Value.ref a from ru)
    exact repr_of_reads' rd hw (PyData.noDict_hsm hnd) hg (by omega) (fun _ _ e => e) (fun h' t tk hk => ⟨.str _, H, I.kept (t' := tk) hk, ⟨_, rfl⟩, q⟩) hz
  | tup _ _ =>
    rename_i a _ _ _ _
    cases (show u = Value.ref a from ru)
    exact repr_of_reads' rd hw (PyData.noDict_hsm hnd) hg (by omega) (fun _ _ e => e) (fun h' t tk hk => ⟨.str _, H, I.kept (t' := tk) hk, ⟨_, rfl⟩, q⟩) hz

inductive RRs (k : Ka) (g : Gs) (H : Hp) : List V → List P → Prop
  | nil : RRs k g H [] []
  | cons {v : V} {vs : List V} {p : P} {ps : List P} : RR k g H v p → RRs k g H vs ps → RRs k g H (v :: vs) (p :: ps)
theorem ders_rrs {g : Gs} {H : Hp} {S : Sto} (rs : RS k g H S) : ∀ {ds : List D} {ps : List P} {vs : List V}, ders S ds = some ps → RDs k g H vs ds → RRs k g H vs ps
  | [], ps, _, e, h => by
    cases h
    cases e
    exact .nil
  | d :: ds, ps, _, e, h => by
    cases h with
    | cons a b =>
      unfold ders at e
      split at e
      · rename_i p qs h1 h2
        cases e
        exact .cons (a.der rs h1) (ders_rrs rs h2 b)
      · cases e
def nmB : Bi → Str
  | .len => "len" | .abs => "abs" | .int => "int" | .str => "str" | .repr => "repr" | .all => "all" | .any => "any"
  | .tuple => "tuple" | .list => "list" | .sorted => "sorted" | .max => "max" | .min => "min" | .sum => "sum"
def fnB : Bi → Value
  | .len => .builtin "len" | .abs => .builtin "abs" | .int => .type "int" | .str => .type "str" | .repr => .builtin "repr" | .all => .builtin "all" | .any => .builtin "any"
  | .tuple => .type "tuple" | .list => .type "list" | .sorted => .builtin "sorted" | .max => .builtin "max" | .min => .builtin "min" | .sum => .builtin "sum"
theorem nmB_boot (b : Bi) : bootBuiltins (nmB b) = some (fnB b) ∧ nmB b ≠ "__name__" ∧ (nmB b == ("__debug__" : Str)) = false := by
  cases b <;> exact ⟨by decide +kernel, by decide +kernel, by decide +kernel⟩
theorem bools_spec {g : Gs} {H : Hp} : ∀ {ps : List P} {bs : List Bool} {vs : List V}, bools ps = some bs → RPs k g H vs ps → vs = bs.map V.bl
  | [], bs, _, e, h => by cases h; cases e; rfl
  | .bl b :: ps, bs, _, e, h => by
    cases h with
    | cons a r =>
      obtain ⟨cs, h1, rfl⟩ := Option.map_eq_some_iff.mp (show (bools ps).map (b :: ·) = some bs from e)
      cases a
      rw [bools_spec h1 r]; rfl
  | .non :: _, _, _, e, _ => by cases e
  | .int _ :: _, _, _, e, _ => by cases e
  | .str _ :: _, _, _, e, _ => by cases e
  | .tup _ :: _, _, _, e, _ => by cases e
  | .lst _ :: _, _, _, e, _ => by cases e
  | .fn _ :: _, _, _, e, _ => by cases e
  | .scr _ :: _, _, _, e, _ => by cases e
theorem RRs.one {g : Gs} {H : Hp} {vs : List V} {p : P} (h : RRs k g H vs [p]) : ∃ v, vs = [v] ∧ RR k g H v p := by
  cases h with
  | cons a b => cases b; exact ⟨_, rfl, a⟩
theorem RRs.two {g : Gs} {H : Hp} {vs : List V} {p q : P} (h : RRs k g H vs [p, q]) : ∃ v w, vs = [v, w] ∧ RR k g H v p ∧ RR k g H w q := by
  cases h with
  | cons a b =>
    obtain ⟨w, rfl, r⟩ := b.one
    exact ⟨_, w, rfl, a, r⟩
theorem one_some {f : P → Option P} {ps : List P} {z : P} (h : one f ps = some z) : ∃ x, ps = [x] ∧ f x = some z := by
  match ps, h with
  | [x], h => exact ⟨x, rfl, h⟩
theorem two_some {f : P → P → Option P} {ps : List P} {z : P} (h : two f ps = some z) : ∃ x y, ps = [x, y] ∧ f x y = some z := by
  match ps, h with
  | [x, y], h => exact ⟨x, y, rfl, h⟩
theorem bi_rule (b : Bi) (hK : X.K = k.K) (hc : X.calm = true) (hg : X.A.guards = some []) (hu : X.A.units + 66 < cLine) : ∃ r, CallR X (fnB b) r ∧
    ∀ {g H S Q ps z vs}, blt b ps = some z → RS k g H S → RRs k g H vs ps → Want k g H S (.p z) Q → r vs H Q := by
  cases b <;> simp only [fnB]
  case len =>
    refine ⟨_, call_len, fun {g H S Q ps z vs} e rs rr w => ?_⟩
    obtain ⟨x, rfl, e1⟩ := one_some e
    clear e
    have e := e1
    clear e1
    obtain ⟨v, rfl, r⟩ := rr.one
    cases x <;> simp only [len1] at e <;> first | (cases e; done) | skip
    · split at e
      · rename_i hl
        have e := Option.some.inj e
        subst e
        exact ⟨v, _, rfl, by rw [r.str]; exact ⟨by rw [← line_eq]; exact hl, rfl⟩, w.int rs⟩
      · cases e
    · have e := Option.some.inj e
      subst e
      obtain ⟨a, vs, rfl, ha, r1⟩ := r.tup
      exact ⟨_, _, rfl, .inr ⟨vs, by rw [hK]; exact ha, rfl⟩, by rw [r1.length]; exact w.int rs⟩
    · have e := Option.some.inj e
      subst e
      obtain ⟨a, vs, rfl, ha, r1⟩ := r.lst
      exact ⟨_, _, rfl, .inl ⟨vs, .inl (.inl ha), rfl⟩, by rw [r1.length]; exact w.int rs⟩
    · have e := Option.some.inj e
      subst e
      obtain ⟨a, rfl, ha⟩ := r.scr
      exact ⟨_, _, rfl, .inl ⟨_, by rw [hK]; exact ha, rfl⟩, by rw [List.length_map]; exact w.int rs⟩
  case abs =>
    refine ⟨_, call_abs, fun {g H S Q ps z vs} e rs rr w => ?_⟩
    obtain ⟨x, rfl, e1⟩ := one_some e
    clear e
    have e := e1
    clear e1
    obtain ⟨v, rfl, r⟩ := rr.one
    cases x <;> simp only [abs1] at e <;> first | (cases e; done) | skip
    have e := Option.some.inj e
    subst e
    exact ⟨_, by rw [r.int], w.int rs⟩
  case int =>
    refine ⟨_, call_int1, fun {g H S Q ps z vs} e rs rr w => ?_⟩
    obtain ⟨x, rfl, e1⟩ := one_some e
    clear e
    have e := e1
    clear e1
    obtain ⟨v, rfl, r⟩ := rr.one
    cases x <;> simp only [int1] at e <;> first | (cases e; done) | skip
    · have e := Option.some.inj e
      subst e
      exact .inr ⟨_, by rw [r.bl], w.int rs⟩
    · have e := Option.some.inj e
      subst e
      exact .inl ⟨_, by rw [r.int], w.int rs⟩
  case str =>
    refine ⟨_, CallR.or call_str_int SkE.call_str_str, fun {g H S Q ps z vs} e rs rr w => ?_⟩
    obtain ⟨x, rfl, e1⟩ := one_some e
    clear e
    have e := e1
    clear e1
    obtain ⟨v, rfl, r⟩ := rr.one
    cases x <;> simp only [str1] at e <;> first | (cases e; done) | skip
    · split at e
      · rename_i hl
        have e := Option.some.inj e
        subst e
        exact .inl ⟨_, by rw [r.int], hl, w.str rs⟩
      · cases e
    · have e := Option.some.inj e
      subst e
      exact .inr ⟨_, by rw [r.str], w.str rs⟩
  case repr =>
    refine ⟨_, call_repr hg hu, fun {g H S Q ps z vs} e rs rr w => ?_⟩
    obtain ⟨x, rfl, e1⟩ := one_some e
    clear e
    have e := e1
    clear e1
    obtain ⟨v, rfl, r⟩ := rr.one
    unfold repr1 at e
    split at e
    · rename_i n hn
      split at e
      · rename_i hd
        obtain ⟨h1, h2⟩ := Bool.and_eq_true_iff.mp hd
        have e := Option.some.inj e
        subst e
        obtain ⟨q1, q2⟩ := txt_len hn h1
        have h3 := Nat.le_of_ble_eq_true h2
        exact ⟨v, _, rfl, by rw [hK]; exact r.dp h1, dat_shaped h1, q2, by rw [← line_eq]; omega, w.str rs⟩
      · cases e
    · cases e
  case all =>
    refine ⟨_, cr_all hc, fun {g H S Q ps z vs} e rs rr w => ?_⟩
    obtain ⟨x, rfl, e1⟩ := one_some e
    clear e
    have e := e1
    clear e1
    obtain ⟨v, rfl, r⟩ := rr.one
    cases x <;> simp only [all1] at e <;> first | (cases e; done) | skip
    obtain ⟨bs, h1, rfl⟩ := Option.map_eq_some_iff.mp e
    obtain ⟨a, vs, rfl, ha, r1⟩ := r.lst
    rw [bools_spec h1 r1] at ha
    exact ⟨_, bs, rfl, .inl (.inl ha), w.bl rs⟩
  case any =>
    refine ⟨_, cr_any hc, fun {g H S Q ps z vs} e rs rr w => ?_⟩
    obtain ⟨x, rfl, e1⟩ := one_some e
    clear e
    have e := e1
    clear e1
    obtain ⟨v, rfl, r⟩ := rr.one
    cases x <;> simp only [any1] at e <;> first | (cases e; done) | skip
    obtain ⟨bs, h1, rfl⟩ := Option.map_eq_some_iff.mp e
    obtain ⟨a, vs, rfl, ha, r1⟩ := r.lst
    rw [bools_spec h1 r1] at ha
    exact ⟨_, bs, rfl, .inl (.inl ha), w.bl rs⟩
  case tuple =>
    refine ⟨_, call_tuple_of, fun {g H S Q ps z vs} e rs rr w => ?_⟩
    obtain ⟨x, rfl, e1⟩ := one_some e
    clear e
    have e := e1
    clear e1
    obtain ⟨v, rfl, r⟩ := rr.one
    cases x <;> simp only [tuple1] at e <;> first | (cases e; done) | skip
    · have e := Option.some.inj e
      subst e
      have r0 := r.rp
      obtain ⟨a, vs, rfl, ha, r1⟩ := r.tup
      exact ⟨_, vs, rfl, .inr ⟨by rw [hK]; exact ha, w.at rs r0⟩⟩
    · have e := Option.some.inj e
      subst e
      obtain ⟨a, vs, rfl, ha, r1⟩ := r.lst
      exact ⟨_, vs, rfl, .inl ⟨.inl (.inl ha), w.tup rs r1⟩⟩
  case list =>
    refine ⟨_, call_list_of, fun {g H S Q ps z vs} e rs rr w => ?_⟩
    obtain ⟨x, rfl, e1⟩ := one_some e
    clear e
    have e := e1
    clear e1
    obtain ⟨v, rfl, r⟩ := rr.one
    cases x <;> simp only [list1] at e <;> first | (cases e; done) | skip
    · have e := Option.some.inj e
      subst e
      obtain ⟨a, vs, rfl, ha, r1⟩ := r.tup
      exact ⟨_, vs, rfl, .inr (by rw [hK]; exact ha), w.lst rs r1⟩
    · have e := Option.some.inj e
      subst e
      obtain ⟨a, vs, rfl, ha, r1⟩ := r.lst
      exact ⟨_, vs, rfl, .inl (.inl (.inl ha)), w.lst rs r1⟩
  case max =>
    refine ⟨_, call_max2 hc, fun {g H S Q ps z vs} e rs rr w => ?_⟩
    obtain ⟨x, y, rfl, e1⟩ := two_some e
    clear e
    have e := e1
    clear e1
    obtain ⟨v, v', rfl, r, r'⟩ := rr.two
    cases x <;> cases y <;> simp only [max2] at e <;> first | (cases e; done) | skip
    have e := Option.some.inj e
    subst e
    exact ⟨_, _, by rw [r.int, r'.int], w.int rs⟩
  case min =>
    refine ⟨_, call_min2 hc, fun {g H S Q ps z vs} e rs rr w => ?_⟩
    obtain ⟨x, y, rfl, e1⟩ := two_some e
    clear e
    have e := e1
    clear e1
    obtain ⟨v, v', rfl, r, r'⟩ := rr.two
    cases x <;> cases y <;> simp only [min2] at e <;> first | (cases e; done) | skip
    have e := Option.some.inj e
    subst e
    exact ⟨_, _, by rw [r.int, r'.int], w.int rs⟩
  case sorted => exact ⟨fun _ _ _ => False, fun _ _ _ _ _ _ _ _ _ h => h.elim, fun {g H S Q ps z vs} e => by cases e⟩
  case sum => exact ⟨fun _ _ _ => False, fun _ _ _ _ _ _ _ _ _ h => h.elim, fun {g H S Q ps z vs} e => by cases e⟩
/-! ### isinstance by a built-in type -/
def tyN : P → Option String
  | .non => some "NoneType" | .bl _ => some "bool" | .int _ => some "int" | .str _ => some "str" | .tup _ => some "tuple" | .lst _ => some "list"
  | _ => none
theorem tyX_spec {g : Gs} {H : Hp} {v : V} {p : P} {T : String} (e : tyN p = some T) (r : RR k g H v p) : TyX k.K H v (.type T) := by
  cases p <;> simp only [tyN] at e <;> first | (cases e; done) | skip
  · cases e; rw [r.non]; exact .base .non
  · cases e; rw [r.bl]; exact .base (.bl _)
  · cases e; rw [r.int]; exact .base (.int _)
  · cases e; rw [r.str]; exact .base (.str _)
  · cases e
    obtain ⟨a, vs, rfl, ha, r1⟩ := r.tup
    rcases ha with (ha | ⟨o, ha⟩) | ⟨o, its, n, h1, h2, _⟩
    · exact .base (.tup ha)
    · exact .fTuple ha
    · exact .kTuple h1 h2
  · cases e
    obtain ⟨a, vs, rfl, ha, r1⟩ := r.lst
    exact .base (.lst ha)
def nmT : Ty → String
  | .int => "int" | .bool => "bool" | .str => "str" | .tuple => "tuple" | .list => "list" | .dict => "dict"
theorem nmT_boot (T : Ty) : bootBuiltins (nmT T : Str) = some (.type (nmT T)) ∧ (nmT T : Str) ≠ "__name__" ∧ ((nmT T : Str) == ("__debug__" : Str)) = false := by
  cases T <;> exact ⟨by decide +kernel, by decide +kernel, by decide +kernel⟩
theorem isi_kit {T : Ty} {p : P} {b : Bool} (h : isi T p = some b) : ∃ t, tyN p = some t ∧ kitB t (nmT T) = some b := by
  cases p <;> cases T <;> simp only [isi] at h <;> first | (cases h; done) | skip
  all_goals cases h
  all_goals exact ⟨_, rfl, by decide +kernel⟩
end
end Mn
/-! Mn7: expressions of the text against the evaluator's. -/
namespace Mn
open L2 PyProof.Rows PySem.Spec PySem
section
variable {X : Cx} {k : Ka} {W : WX} {cal : Nat → List D → Sto → R D} {s : Ev}
theorem rdE.imp {f : Loc → Sto → R D} {σ : Ls} {H : Hp} {Q Q' : VK} (h : rdE k W f σ H Q) (i : ∀ v H', Q v H' → Q' v H') : rdE k W f σ H Q' := by
  obtain ⟨g, L, S, rl, rs, b⟩ := h
  exact ⟨g, L, S, rl, rs, b.imp fun d S' g' H' _ _ q v r => i v H' (q v r)⟩
theorem rdT.imp {f : Loc → Sto → R Bool} {σ : Ls} {H : Hp} {Q Q' : Bool → Hp → Prop} (h : rdT k W f σ H Q) (i : ∀ v H', Q v H' → Q' v H') : rdT k W f σ H Q' := by
  obtain ⟨g, L, S, rl, rs, b⟩ := h
  exact ⟨g, L, S, rl, rs, b.imp fun d S' g' H' _ _ q => i d H' q⟩
theorem rdA.imp {f : Loc → Sto → R (List D)} {σ : Ls} {H : Hp} {Q Q' : List V → Hp → Prop} (h : rdA k W f σ H Q) (i : ∀ v H', Q v H' → Q' v H') : rdA k W f σ H Q' := by
  obtain ⟨g, L, S, rl, rs, b⟩ := h
  exact ⟨g, L, S, rl, rs, b.imp fun d S' g' H' _ _ q v r => i v H' (q v r)⟩
theorem Bk.okE {σ : Ls} {g : Gs} {H : Hp} {S : Sto} {d : D} {Q : VK} (b : Bk k W σ g H (R.ok d S) fun d _ g' H' => ∀ v, RD k g' H' v d → Q v H') : Want k g H S d Q := b
theorem lift_want {σ : Ls} {g : Gs} {H : Hp} {S : Sto} {o : Option P} {Q : VK} (b : Bk k W σ g H (liftP S o) fun d _ g' H' => ∀ v, RD k g' H' v d → Q v H') : ∃ z, o = some z ∧ Want k g H S (.p z) Q := by
  cases o with
  | none => exact b.elim
  | some z => exact ⟨z, rfl, b⟩
theorem evB_want {σ : Ls} {g : Gs} {H : Hp} {S : Sto} {o : Option Bool} {Q : VK} (rs : RS k g H S) (b : Bk k W σ g H (evB o S) fun d _ g' H' => ∀ v, RD k g' H' v d → Q v H') : ∃ z, o = some z ∧ Q (.bl z) H := by
  cases o with
  | none => exact b.elim
  | some z => exact ⟨z, rfl, Want.bl b rs⟩
theorem tru_want {σ : Ls} {g : Gs} {H : Hp} {S : Sto} {x : D} {v : V} {Q : Bool → Sto → Gs → Hp → Prop} (rs : RS k g H S) (rx : RD k g H v x) (b : Bk k W σ g H (truR x S) Q) : ∃ c, truR x S = .ok c S ∧ TruV k.K v H c ∧ Q c S g H := by
  unfold truR at b ⊢
  cases e : der S x with
  | none => rw [e] at b; exact b.elim
  | some p =>
    rw [e] at b
    have e1 : (some p).bind tru = tru p := rfl
    rw [e1] at b ⊢
    cases e2 : tru p with
    | none => rw [e2] at b; exact b.elim
    | some c =>
      rw [e2] at b
      exact ⟨c, rfl, tru_spec e2 (rx.der rs e), b.here rs⟩

theorem se_v {i : Nat} {x : Str} {pos : Pos} (hN : X.N[i]? = some x) (hv : Vis X.env.scope x) (hd : (x == ("__debug__" : Str)) = false) (hcd : (x == ("__classdict__" : Str)) = false) :
    PE X (.Name x pos) (rdE k W (evE cal s (.v i))) := by
  refine PE.imp (pe_var hN hv hd hcd) fun σ H Q h => ?_
  obtain ⟨g, L, S, rl, rs, b⟩ := h
  simp only [evE] at b
  split at b
  · rename_i d e
    obtain ⟨v, e1, r⟩ := rl.2 i d e
    exact ⟨v, e1, b.here rs v r⟩
  · exact b.elim
theorem se_k {x : P} {e : Expr} {v : V} (h : PE X e (tC v)) (r : ∀ g H, RP k g H v x) : PE X e (rdE k W (evE cal s (.k x))) := by
  refine PE.imp h fun σ H Q h => ?_
  obtain ⟨g, L, S, rl, rs, b⟩ := h
  exact b.here rs v (r g H)
theorem se_bin {op : Operator} {o : Bo} {a b : Expr} {a' b' : E} {pos : Pos} (hK : X.K = k.K) (ho : opB op = some o) (ha : PE X a (rdE k W (s.e a'))) (hb : PE X b (rdE k W (s.e b'))) :
    PE X (.BinOp a op b pos) (rdE k W (evE cal s (.bin o a' b'))) := by
  obtain ⟨r, h1, h2⟩ := bin_rule (X := X) (k := k) ho hK
  refine PE.imp (pe_op h1 ha hb) fun σ H Q h => ?_
  refine rdE.imp (rd_two (F := binR o) h) fun vx H1 q => rdE.imp q fun vy H2 q => ?_
  obtain ⟨g, x, y, S, rs, rx, ry, bk⟩ := q
  unfold binR at bk
  split at bk
  · rename_i p q e1 e2
    obtain ⟨z, e3, w⟩ := lift_want bk
    exact h2 e3 rs (rx.der rs e1) (ry.der rs e2) w
  · exact bk.elim
theorem se_neg {a : Expr} {a' : E} {pos : Pos} (ha : PE X a (rdE k W (s.e a'))) : PE X (.UnaryOp .USub a pos) (rdE k W (evE cal s (.neg a'))) := by
  refine PE.imp (pe_un un_neg ha) fun σ H Q h => ?_
  refine rdE.imp (rd_one (F := negR) h) fun vx H1 q => ?_
  obtain ⟨g, x, S, rs, rx, bk⟩ := q
  unfold negR at bk
  split at bk
  · rename_i i
    cases (show RP k g H1 vx (.int i) from rx)
    exact ⟨i, rfl, (Bk.okE bk).int rs⟩
  · exact bk.elim
theorem cmp_in {op : CmpOp} {r : R2} (h2 : ∀ {g H S Q p q b vx vy}, cmpo (opC op) p q = some b → RS k g H S → RR k g H vx p → RR k g H vy q → Q (.bl b) H → r vx vy H Q) {a' b' : E} {σ : Ls} {H : Hp} {Q : VK}
    (h : rdE k W (evE cal s (.cmp (opC op) a' b')) σ H Q) : tOp r (rdE k W (s.e a')) (rdE k W (s.e b')) σ H Q := by
  refine rdE.imp (rd_two (F := cmpR (opC op)) h) fun vx H1 q => rdE.imp q fun vy H2 q => ?_
  obtain ⟨g, x, y, S, rs, rx, ry, bk⟩ := q
  unfold cmpR at bk
  split at bk
  · rename_i p q e1 e2
    obtain ⟨z, e3, w⟩ := evB_want rs bk
    exact h2 (S := S) e3 rs (rx.der rs e1) (ry.der rs e2) w
  · exact bk.elim
theorem se_cmp {op : CmpOp} {a b : Expr} {a' b' : E} {pos : Pos} (hK : X.K = k.K) (hu : X.A.units + 65 < cLine) (hm : behindInMarks op b = false) (ha : PE X a (rdE k W (s.e a'))) (hb : PE X b (rdE k W (s.e b'))) :
    PE X (.Compare a [op] [b] pos) (rdE k W (evE cal s (.cmp (opC op) a' b'))) := by
  obtain ⟨r, h1, h2⟩ := cmp_rule (X := X) (k := k) op hK hu
  exact PE.imp (pe_cmpR h1 ha hb hm) fun σ H Q h => cmp_in h2 h
/-- from a test's run to its value's -/
theorem rd_truth {f : Loc → Sto → R D} {σ : Ls} {H : Hp} {Q : Bool → Hp → Prop} (h : rdT k W (fun L S => (f L S).bind fun x S1 => truR x S1) σ H Q) : rdE k W f σ H fun v H1 => ∃ c, TruV k.K v H1 c ∧ Q c H1 := by
  obtain ⟨g, L, S, rl, rs, b⟩ := h
  refine ⟨g, L, S, rl, rs, b.bind.imp fun x S1 g1 H1 _ rs1 bk v r => ?_⟩
  obtain ⟨c, _, h2, h3⟩ := tru_want rs1 r bk
  exact ⟨c, h2, h3⟩
theorem st_plain {e : Expr} {e' : E} (hK : X.K = k.K) (hp : plainTest e = true) (h : PE X e (rdE k W (evE cal s e'))) (ht : evT cal s e' = fun L S => (evE cal s e' L S).bind fun x S1 => truR x S1) :
    PT X e (rdT k W (evT cal s e')) := by
  refine PT.imp (pt_truth h (fun whole => isTrue_of hp X.env whole)) fun σ H Q q => ?_
  rw [ht] at q
  exact rdE.imp (rd_truth q) fun v H1 ⟨c, h1, h2⟩ => ⟨c, by rw [hK]; exact h1, h2⟩
/-- a run whose value is a truth value -/
def BlV (f : Loc → Sto → R D) : Prop := ∀ L S d S', f L S = .ok d S' → ∃ b, d = .p (.bl b)
theorem rd_bl {f : Loc → Sto → R D} (hf : BlV f) {σ : Ls} {H : Hp} {Q : Bool → Hp → Prop} (h : rdT k W (fun L S => (f L S).bind fun x S1 => truR x S1) σ H Q) : rdE k W f σ H fun v H1 => ∃ c, v = .bl c ∧ Q c H1 := by
  obtain ⟨g, L, S, rl, rs, b⟩ := h
  refine ⟨g, L, S, rl, rs, ?_⟩
  dsimp only at b
  cases e1 : f L S with
  | bad => rw [e1] at b; exact b.elim
  | ex x S1 => rw [e1] at b; exact b
  | ok x S1 =>
    rw [e1] at b
    obtain ⟨c, rfl⟩ := hf _ _ _ _ e1
    intro g' H' x' rs' v r
    cases (show RP k g' H' v (.bl c) from r)
    exact ⟨c, rfl, b g' H' x' rs'⟩
theorem cmpR_bl {o : Co} {x y d : D} {S S' : Sto} (h : cmpR o x y S = .ok d S') : ∃ b, d = .p (.bl b) := by
  unfold cmpR at h
  split at h
  · rename_i p q _ _
    cases e3 : cmpo o p q with
    | none => rw [e3] at h; cases h
    | some c => rw [e3] at h; cases h; exact ⟨c, rfl⟩
  · cases h
theorem R.bind_ok {α β : Type} {r : R α} {f : α → Sto → R β} {b : β} {S' : Sto} (h : r.bind f = .ok b S') : ∃ a S, r = .ok a S ∧ f a S = .ok b S' := by
  cases r with
  | ok a S => exact ⟨a, S, rfl, h⟩
  | ex _ _ => cases h
  | bad => cases h
theorem cmp_blv {o : Co} {a' b' : E} : BlV (evE cal s (.cmp o a' b')) := fun L S d S' h => by
  obtain ⟨x, S1, _, h⟩ := R.bind_ok h
  obtain ⟨y, S2, _, h⟩ := R.bind_ok h
  exact cmpR_bl h
theorem chain_blv {o o' : Co} {a' b' c' : E} : BlV (evE cal s (.chain o o' a' b' c')) := fun L S d S' h => by
  obtain ⟨x, S1, _, h⟩ := R.bind_ok h
  obtain ⟨y, S2, _, h⟩ := R.bind_ok h
  obtain ⟨z, S3, _, h⟩ := R.bind_ok h
  split at h
  · obtain ⟨w, S4, _, h⟩ := R.bind_ok h
    exact cmpR_bl h
  · cases h; exact ⟨_, rfl⟩
  · cases h
theorem st_cmp {op : CmpOp} {a b : Expr} {a' b' : E} {pos : Pos} (hK : X.K = k.K) (hu : X.A.units + 65 < cLine) (hm : behindInMarks op b = false) (ha : PE X a (rdE k W (s.e a'))) (hb : PE X b (rdE k W (s.e b'))) :
    PT X (.Compare a [op] [b] pos) (rdT k W (evT cal s (.cmp (opC op) a' b'))) := by
  obtain ⟨r, h1, h2⟩ := cmp_rule (X := X) (k := k) op hK hu
  exact PT.imp (pt_cmpR h1 ha hb hm) fun σ H Q h => cmp_in h2 (rd_bl cmp_blv h)
/-- two comparisons in a chain -/
theorem chain_in {op op' : CmpOp} {r r' : R2} (h2 : ∀ {g H S Q p q b vx vy}, cmpo (opC op) p q = some b → RS k g H S → RR k g H vx p → RR k g H vy q → Q (.bl b) H → r vx vy H Q)
    (h2' : ∀ {g H S Q p q b vx vy}, cmpo (opC op') p q = some b → RS k g H S → RR k g H vx p → RR k g H vy q → Q (.bl b) H → r' vx vy H Q) {a' b' c' : E} {σ : Ls} {H : Hp} {Q : VK}
    (h : rdE k W (evE cal s (.chain (opC op) (opC op') a' b' c')) σ H Q) : tChain r r' (rdE k W (s.e a')) (rdE k W (s.e b')) (rdE k W (s.e c')) σ H Q := by
  obtain ⟨g, L, S, rl, rs, b⟩ := h
  refine ⟨g, L, S, rl, rs, b.bind.imp fun x S1 g1 H1 e1 rs1 b1 vx rx => ⟨g1, L, S1, rl.mono e1, rs1, b1.bind.imp fun y S2 g2 H2 e2 rs2 b2 vy ry => ?_⟩⟩
  unfold cmpR at b2
  split at b2
  · rename_i p q e3 e4
    cases e5 : cmpo (opC op) p q with
    | none => rw [e5] at b2; exact b2.elim
    | some c =>
      rw [e5] at b2
      refine h2 (S := S2) e5 rs2 ((rx.mono e2).der rs2 e3) (ry.der rs2 e4) ⟨c, rfl, ?_⟩
      cases c with
      | false =>
        rw [if_neg Bool.false_ne_true]
        exact Want.bl (show Want k g2 H2 S2 (.p (.bl false)) Q from b2) rs2
      | true =>
        rw [if_pos rfl]
        have b3 : Bk k W σ g2 H2 ((s.e c' L S2).bind fun w S4 => cmpR (opC op') y w S4) fun d _ g' H' => ∀ v, RD k g' H' v d → Q v H' := b2
        refine ⟨g2, L, S2, rl.mono (e1.trans e2), rs2, b3.bind.imp fun z S4 g4 H4 e6 rs4 b4 vz rz => ?_⟩
        unfold cmpR at b4
        split at b4
        · rename_i p' q' e7 e8
          obtain ⟨z, e9, w⟩ := evB_want rs4 b4
          exact h2' (S := S4) e9 rs4 ((ry.mono e6).der rs4 e7) (rz.der rs4 e8) w
        · exact b4.elim
  · exact b2.elim
theorem lastM {op op' : CmpOp} {b c : Expr} (h : behindInMarks op' c = false) : lastMarks [op, op'] [b, c] = false := h
theorem se_chain {op op' : CmpOp} {a b c : Expr} {a' b' c' : E} {pos : Pos} (hK : X.K = k.K) (hu : X.A.units + 65 < cLine) (hm' : behindInMarks op' c = false)
    (ha : PE X a (rdE k W (s.e a'))) (hb : PE X b (rdE k W (s.e b'))) (hc : PE X c (rdE k W (s.e c'))) :
    PE X (.Compare a [op, op'] [b, c] pos) (rdE k W (evE cal s (.chain (opC op) (opC op') a' b' c'))) := by
  obtain ⟨r, h1, h2⟩ := cmp_rule (X := X) (k := k) op hK hu
  obtain ⟨r', h1', h2'⟩ := cmp_rule (X := X) (k := k) op' hK hu
  exact PE.imp (pe_chain h1 h1' ha hb hc (lastM hm')) fun σ H Q h => chain_in h2 h2' h
theorem st_chain {op op' : CmpOp} {a b c : Expr} {a' b' c' : E} {pos : Pos} (hK : X.K = k.K) (hu : X.A.units + 65 < cLine) (hm' : behindInMarks op' c = false)
    (ha : PE X a (rdE k W (s.e a'))) (hb : PE X b (rdE k W (s.e b'))) (hc : PE X c (rdE k W (s.e c'))) :
    PT X (.Compare a [op, op'] [b, c] pos) (rdT k W (evT cal s (.chain (opC op) (opC op') a' b' c'))) := by
  obtain ⟨r, h1, h2⟩ := cmp_rule (X := X) (k := k) op hK hu
  obtain ⟨r', h1', h2'⟩ := cmp_rule (X := X) (k := k) op' hK hu
  exact PT.imp (pt_chain h1 h1' ha hb hc (lastM hm')) fun σ H Q h => chain_in h2 h2' (rd_bl chain_blv h)

/-! ### not, and, or, if .. else -/
theorem se_not {a : Expr} {a' : E} {pos : Pos} (hK : X.K = k.K) (ha : PE X a (rdE k W (s.e a'))) : PE X (.UnaryOp .Not a pos) (rdE k W (evE cal s (.not a'))) := by
  refine PE.imp (pe_notT ha) fun σ H Q h => ?_
  refine rdE.imp (rd_one (F := fun x S1 => (truR x S1).bind fun b S2 => .ok (.p (.bl (!b))) S2) h) fun vx H1 q => ?_
  obtain ⟨g, x, S, rs, rx, bk⟩ := q
  obtain ⟨c, h1, h2, h3⟩ := tru_want rs rx bk.bind
  exact ⟨c, by rw [hK]; exact h2, Want.bl (show Want k g H1 S (.p (.bl (!c))) Q from h3) rs⟩
theorem rd_andor {a' b' : E} {o : Bool} {σ : Ls} {H : Hp} {Q : VK} (hK : X.K = k.K)
    (h : rdE k W (fun L S => (s.e a' L S).bind fun x S1 => (truR x S1).bind fun c S2 => if c = o then s.e b' L S2 else .ok x S2) σ H Q) :
    rdE k W (s.e a') σ H fun x H1 => ∃ c, TruV X.K x H1 c ∧ (c = o → rdE k W (s.e b') σ H1 Q) ∧ (c ≠ o → Q x H1) := by
  obtain ⟨g, L, S, rl, rs, b⟩ := h
  refine ⟨g, L, S, rl, rs, b.bind.imp fun x S1 g1 H1 e1 rs1 bk v r => ?_⟩
  obtain ⟨c, _, h2, h3⟩ := tru_want rs1 r bk.bind
  refine ⟨c, by rw [hK]; exact h2, fun e => ?_, fun e => ?_⟩
  · rw [if_pos e] at h3
    exact ⟨g1, L, S1, rl.mono e1, rs1, h3⟩
  · rw [if_neg e] at h3
    exact (show Want k g1 H1 S1 x Q from h3).at rs1 r
theorem se_and {a b : Expr} {rest : List Expr} {a' b' : E} {pos : Pos} (hK : X.K = k.K) (ha : PE X a (rdE k W (s.e a'))) (hb : PE X (.BoolOp .And (b :: rest) pos) (rdE k W (s.e b'))) :
    PE X (.BoolOp .And (a :: b :: rest) pos) (rdE k W (evE cal s (.and a' b'))) := by
  refine PE.imp (pe_andT ha hb) fun σ H Q h => ?_
  refine rdE.imp (rd_andor (X := X) (o := true) hK h) fun x H1 ⟨c, h1, h2, h3⟩ => ⟨c, h1, ?_⟩
  cases c with
  | true => exact iteT (h2 rfl)
  | false => exact iteF (h3 Bool.false_ne_true)
theorem se_or {a b : Expr} {rest : List Expr} {a' b' : E} {pos : Pos} (hK : X.K = k.K) (ha : PE X a (rdE k W (s.e a'))) (hb : PE X (.BoolOp .Or (b :: rest) pos) (rdE k W (s.e b'))) :
    PE X (.BoolOp .Or (a :: b :: rest) pos) (rdE k W (evE cal s (.or a' b'))) := by
  refine PE.imp (pe_orT ha hb) fun σ H Q h => ?_
  have h' : rdE k W (fun L S => (s.e a' L S).bind fun x S1 => (truR x S1).bind fun c S2 => if c = false then s.e b' L S2 else .ok x S2) σ H Q := by
    obtain ⟨g, L, S, rl, rs, b⟩ := h
    refine ⟨g, L, S, rl, rs, ?_⟩
    have e : (fun x S1 => (truR x S1).bind fun c S2 => if c = true then (R.ok x S2 : R D) else s.e b' L S2) = fun x S1 => (truR x S1).bind fun c S2 => if c = false then s.e b' L S2 else R.ok x S2 := by
      funext x S1
      congr 1
      funext c S2
      cases c <;> rfl
    show Bk k W σ g H ((s.e a' L S).bind fun x S1 => (truR x S1).bind fun c S2 => if c = false then s.e b' L S2 else R.ok x S2) _
    rw [← e]
    exact b
  refine rdE.imp (rd_andor (X := X) (o := false) hK h') fun x H1 ⟨c, h1, h2, h3⟩ => ⟨c, h1, ?_⟩
  cases c with
  | true => exact iteT (h3 (fun z => nomatch z))
  | false => exact iteF (h2 rfl)
theorem st_not {a : Expr} {a' : E} {pos : Pos} (ha : PT X a (rdT k W (s.t a'))) : PT X (.UnaryOp .Not a pos) (rdT k W (evT cal s (.not a'))) := by
  refine PT.imp (pt_not ha) fun σ H Q h => ?_
  obtain ⟨g, L, S, rl, rs, b⟩ := h
  exact ⟨g, L, S, rl, rs, b.bind.imp fun c S1 g1 H1 _ rs1 bk => bk.here rs1⟩
theorem PW.imp {e : Expr} {t t' : TT} (h : PW X e t') (i : ∀ σ H Q, t σ H Q → t' σ H Q) : PW X e t := ⟨fun wh pins s σ H Q I q => h.run wh pins s σ H Q I (i σ H Q q)⟩
theorem st_and {a b : Expr} {rest : List Expr} {a' b' : E} {pos : Pos} (ha : PT X a (rdT k W (s.t a'))) (hb : PW X (.BoolOp .And (b :: rest) pos) (rdT k W (s.t b'))) :
    PW X (.BoolOp .And (a :: b :: rest) pos) (rdT k W (evT cal s (.and a' b'))) := by
  refine PW.imp (pw_and ha hb) fun σ H Q h => ?_
  obtain ⟨g, L, S, rl, rs, b⟩ := h
  refine ⟨g, L, S, rl, rs, b.bind.imp fun c S1 g1 H1 e1 rs1 bk => ?_⟩
  cases c with
  | true => exact iteT ⟨g1, L, S1, rl.mono e1, rs1, bk⟩
  | false => exact iteF (bk.here rs1)
theorem st_or {a b : Expr} {rest : List Expr} {a' b' : E} {pos : Pos} (ha : PT X a (rdT k W (s.t a'))) (hb : PW X (.BoolOp .Or (b :: rest) pos) (rdT k W (s.t b'))) :
    PW X (.BoolOp .Or (a :: b :: rest) pos) (rdT k W (evT cal s (.or a' b'))) := by
  refine PW.imp (pw_or ha hb) fun σ H Q h => ?_
  obtain ⟨g, L, S, rl, rs, b⟩ := h
  refine ⟨g, L, S, rl, rs, b.bind.imp fun c S1 g1 H1 e1 rs1 bk => ?_⟩
  cases c with
  | true => exact iteT (bk.here rs1)
  | false => exact iteF ⟨g1, L, S1, rl.mono e1, rs1, bk⟩
theorem se_ite {t a b : Expr} {t' a' b' : E} {pos : Pos} (ht : PT X t (rdT k W (s.t t'))) (ha : PE X a (rdE k W (s.e a'))) (hb : PE X b (rdE k W (s.e b'))) :
    PE X (.IfExp t a b pos) (rdE k W (evE cal s (.ite t' a' b'))) := by
  refine PE.imp (pe_ifExp ht ha hb) fun σ H Q h => ?_
  obtain ⟨g, L, S, rl, rs, b⟩ := h
  refine ⟨g, L, S, rl, rs, b.bind.imp fun c S1 g1 H1 e1 rs1 bk => ?_⟩
  cases c with
  | true => exact iteT ⟨g1, L, S1, rl.mono e1, rs1, bk⟩
  | false => exact iteF ⟨g1, L, S1, rl.mono e1, rs1, bk⟩

/-! ### arguments, displays, calls of what is built in -/
theorem sa_nil : PA X [] (rdA k W (evs s [])) := by
  refine PA.imp pa_nil fun σ H Q h => ?_
  obtain ⟨g, L, S, rl, rs, b⟩ := h
  exact b.here rs [] .nil
theorem sa_cons {e : Expr} {es : List Expr} {e' : E} {es' : List E} (hst : noStar e = true) (he : PE X e (rdE k W (s.e e'))) (hes : PA X es (rdA k W (evs s es'))) : PA X (e :: es) (rdA k W (evs s (e' :: es'))) := by
  refine PA.imp (pa_cons he hes (star_of hst es X.env)) fun σ H Q h => ?_
  obtain ⟨g, L, S, rl, rs, b⟩ := h
  refine ⟨g, L, S, rl, rs, b.bind.imp fun x S1 g1 H1 e1 rs1 b1 vx rx => ⟨g1, L, S1, rl.mono e1, rs1, b1.bind.imp fun ds S2 g2 H2 e2 rs2 b2 vs rvs => ?_⟩⟩
  exact b2.here rs2 _ (.cons (rx.mono e2) rvs)
/-- behind the arguments -/
def FinA (k : Ka) (W : WX) (σ : Ls) (F : List D → Sto → R D) (Q : VK) : List V → Hp → Prop := fun vs H => ∃ g ds S, RS k g H S ∧ RDs k g H vs ds ∧ Bk k W σ g H (F ds S) fun d _ g' H' => ∀ v, RD k g' H' v d → Q v H'
theorem rd_args {fa : Loc → Sto → R (List D)} {F : List D → Sto → R D} {σ : Ls} {H : Hp} {Q : VK} (h : rdE k W (fun L S => (fa L S).bind fun ds S1 => F ds S1) σ H Q) : rdA k W fa σ H fun vs H1 => FinA k W σ F Q vs H1 := by
  obtain ⟨g, L, S, rl, rs, b⟩ := h
  exact ⟨g, L, S, rl, rs, b.bind.imp fun x S1 g1 H1 e1 rs1 b1 vx rx => ⟨g1, x, S1, rs1, rx, b1⟩⟩
theorem RPs.toDs {g : Gs} {H : Hp} {ds : List D} {ps : List P} {vs : List V} (e : allP ds = some ps) (r : RDs k g H vs ds) : RPs k g H vs ps := r.ofP e
theorem se_tup {es : List Expr} {es' : List E} {x1 : Nat} {pos : Pos} (he : PA X es (rdA k W (evs s es'))) : PE X (.Tuple es x1 pos) (rdE k W (evE cal s (.tup es'))) := by
  refine PE.imp (pe_tup he) fun σ H Q h => ?_
  refine rdA.imp (rd_args (F := tupR) h) fun vs H1 q => ?_
  obtain ⟨g, ds, S, rs, rv, bk⟩ := q
  unfold tupR at bk
  split at bk
  · rename_i ps e
    split at bk
    · rename_i hl
      have r := rv.ofP e
      exact ⟨by rw [r.length, ← line_eq]; exact hl, (Bk.okE bk).tup rs r⟩
    · exact bk.elim
  · exact bk.elim
theorem se_lst {own : Bool} {es : List Expr} {es' : List E} {pos : Pos} (he : PA X es (rdA k W (evs s es'))) : PE X (.List es pos) (rdE k W (evE cal s (.lst own es'))) := by
  refine PE.imp (pe_lst he) fun σ H Q h => ?_
  refine rdA.imp (rd_args (F := lstR own) h) fun vs H1 q => ?_
  obtain ⟨g, ds, S, rs, rv, bk⟩ := q
  unfold lstR at bk
  split at bk
  · split at bk
    · rename_i hl
      exact ⟨by rw [rv.length, ← line_eq]; exact hl, (Bk.okE bk).cell rs rv⟩
    · exact bk.elim
  · split at bk
    · rename_i ps e
      split at bk
      · rename_i hl
        have r := rv.ofP e
        exact ⟨by rw [r.length, ← line_eq]; exact hl, (Bk.okE bk).lst rs r⟩
      · exact bk.elim
    · exact bk.elim
theorem noStars {es : List Expr} (h : es.all noStar = true) (env : Env) (pos : Pos) : (backTo pos (starEach es env)).any (·.1) = false := by
  induction es with
  | nil => rfl
  | cons e es ih =>
    rw [List.all_cons, Bool.and_eq_true] at h
    rw [star_of h.1]
    have := ih h.2
    unfold backTo at this ⊢
    rw [List.map_cons, List.any_cons, this]
    rfl
theorem se_bi {b : Bi} {e : Expr} {es : List Expr} {es' : List E} {p pos : Pos} (hK : X.K = k.K) (hc : X.calm = true) (hg : X.A.guards = some []) (hu : X.A.units + 66 < cLine) (hgl : Gl X (nmB b)) (hm : X.mg (nmB b) = none)
    (hst : (e :: es).all noStar = true) (he : PA X (e :: es) (rdA k W (evs s es'))) : PE X (.Call (.Name (nmB b) p) (e :: es) [] pos) (rdE k W (evE cal s (.bi b es'))) := by
  obtain ⟨r, h1, h2⟩ := bi_rule (X := X) (k := k) b hK hc hg hu
  obtain ⟨b1, b2, b3⟩ := nmB_boot b
  have hst' := hst
  rw [List.all_cons, Bool.and_eq_true] at hst'
  have core : ∀ σ H Q, rdE k W (evE cal s (.bi b es')) σ H Q → tCB r (rdA k W (evs s es')) σ H Q := fun σ H Q h => by
    refine rdA.imp (rd_args (F := biR b) h) fun vs H1 q => ?_
    obtain ⟨g, ds, S, rs, rv, bk⟩ := q
    unfold biR at bk
    split at bk
    · rename_i ps e
      obtain ⟨z, e3, w⟩ := lift_want bk
      exact h2 e3 rs (ders_rrs rs e rv) w
    · exact bk.elim
  have go : ∀ {v : Value}, fnB b = v → bootBuiltins (nmB b) = some v := fun e => e ▸ b1
  cases hv : fnB b with
  | builtin id =>
    rw [hv] at h1
    exact PE.imp (pe_callB h1 hgl hm (go hv) he b2 b3 (star_of hst'.1 es X.env) (noStars hst'.2 X.env pos)) core
  | type T =>
    rw [hv] at h1
    exact PE.imp (pe_callTy h1 hgl hm (go hv) he b2 b3 (star_of hst'.1 es X.env) (noStars hst'.2 X.env pos)) core
  | _ => cases b <;> cases hv
theorem se_isi {T : Ty} {e : Expr} {e' : E} {p p2 pos : Pos} (hK : X.K = k.K) (hgl : Gl X "isinstance") (hm : X.mg "isinstance" = none) (hgT : Gl X (nmT T : Str)) (hmT : X.mg (nmT T : Str) = none) (hst : noStar e = true)
    (he : PE X e (rdE k W (s.e e'))) : PE X (.Call (.Name "isinstance" p) [e, .Name (nmT T : Str) p2] [] pos) (rdE k W (evE cal s (.isi T e'))) := by
  obtain ⟨b1, b2, b3⟩ := nmT_boot T
  have ht : PE X (.Name (nmT T : Str) p2) (tC (.ty (nmT T))) := pe_bltn hgT hmT b1 rfl b2 b3
  have ha := pa_cons he (pa_cons ht pa_nil rfl) (star_of hst [.Name (nmT T : Str) p2] X.env)
  refine PE.imp (pe_callB call_isi hgl hm (by decide +kernel) ha (by decide +kernel) (by decide +kernel) (star_of hst _ X.env) rfl) fun σ H Q h => ?_
  refine rdE.imp (rd_one (F := isiR T) h) fun vx H1 q => ?_
  obtain ⟨g, x, S, rs, rx, bk⟩ := q
  unfold isiR at bk
  split at bk
  · rename_i y e1
    obtain ⟨z, e3, w⟩ := evB_want rs bk
    obtain ⟨t, q1, q2⟩ := isi_kit e3
    exact ⟨vx, _, _, _, z, rfl, .ty _, by rw [hK]; exact tyX_spec q1 (rx.der rs e1), kit_ty q2, w⟩
  · exact bk.elim
theorem se_ix {a b : Expr} {a' b' : E} {pos : Pos} (hK : X.K = k.K) (hs : noSlice b = true) (ha : PE X a (rdE k W (s.e a'))) (hb : PE X b (rdE k W (s.e b'))) : PE X (.Subscript a b pos) (rdE k W (evE cal s (.ix a' b'))) := by
  refine PE.imp (pe_ix item_ix ha hb (plainIx_of hs)) fun σ H Q h => ?_
  refine rdE.imp (rd_two (F := ixR) h) fun vx H1 q => rdE.imp q fun vy H2 q => ?_
  obtain ⟨g, x, y, S, rs, rx, ry, bk⟩ := q
  unfold ixR at bk
  split at bk
  · obtain ⟨z, e3, w⟩ := lift_want bk
    exact item_spec hK e3 rs rx ry w
  · split at bk
    · rename_i ds e1
      split at bk
      · rename_i d e2
        obtain ⟨j, e3, e4⟩ := Option.bind_eq_some_iff.mp e2
        exact item_cell rs rx ry e1 e3 e4 (Bk.okE bk)
      · exact bk.elim
    · exact bk.elim
  · exact bk.elim
end
end Mn
/-! Mn8: slices, what is walked, comprehensions. -/
namespace Mn
open L2 PyProof.Rows PySem.Spec PySem
section
variable {X : Cx} {k : Ka} {W : WX} {cal : Nat → List D → Sto → R D} {s : Ev}
/-! ### slices -/
def rdO (k : Ka) (W : WX) (f : Loc → Sto → R (Option Int)) : TO := fun σ H Q => ∃ g L S, RL k g H σ L ∧ RS k g H S ∧ Bk k W σ g H (f L S) fun o _ _ H' => Q o H'
theorem PO.imp {e : Option Expr} {t t' : TO} (h : PO X e t') (i : ∀ σ H Q, t σ H Q → t' σ H Q) : PO X e t := ⟨fun pins s σ H Q I q => h.run pins s σ H Q I (i σ H Q q)⟩
theorem so_none : PO X none (rdO k W (evOpt s none)) := PO.imp po_none fun σ H Q h => by
  obtain ⟨g, L, S, rl, rs, b⟩ := h
  exact b.here rs
theorem so_some {e : Expr} {e' : E} (he : PE X e (rdE k W (s.e e'))) : PO X (some e) (rdO k W (evOpt s (some e'))) := PO.imp (po_some he) fun σ H Q h => by
  obtain ⟨g, L, S, rl, rs, b⟩ := h
  refine ⟨g, L, S, rl, rs, b.bind.imp fun d S1 g1 H1 e1 rs1 bk v r => ?_⟩
  split at bk
  · rename_i i
    cases (show RP k g1 H1 v (.int i) from r)
    exact ⟨i, rfl, bk.here rs1⟩
  · exact bk.elim
theorem cut_rps {g : Gs} {H : Hp} {ps : List P} {vs : List V} (lo hi : Option Int) (r : RPs k g H vs ps) : RPs k g H (cutV vs lo hi) (cut ps lo hi) := by
  unfold cutV cut
  rw [r.length]
  exact (r.drop _).take _
theorem se_sl {a : Expr} {a' : E} {lo hi : Option Expr} {lo' hi' : Option E} {p2 pos : Pos} (hK : X.K = k.K) (ha : PE X a (rdE k W (s.e a'))) (hlo : PO X lo (rdO k W (evOpt s lo'))) (hhi : PO X hi (rdO k W (evOpt s hi'))) :
    PE X (.Subscript a (.Slice lo hi none p2) pos) (rdE k W (evE cal s (.sl a' lo' hi'))) := by
  refine PE.imp (pe_slice (sl_tupA.or sl_list) ha hlo hhi) fun σ H Q h => ?_
  obtain ⟨g, L, S, rl, rs, b⟩ := h
  refine ⟨g, L, S, rl, rs, b.bind.imp fun x S1 g1 H1 e1 rs1 b1 vx rx => ⟨g1, L, S1, rl.mono e1, rs1, b1.bind.imp fun i S2 g2 H2 e2 rs2 b2 => ⟨g2, L, S2, rl.mono (e1.trans e2), rs2, b2.bind.imp fun j S3 g3 H3 e3 rs3 b3 => ?_⟩⟩⟩
  unfold slR at b3
  split at b3
  · rename_i p ep
    obtain ⟨z, ez, w⟩ := lift_want b3
    have rr := (rx.mono (e2.trans e3)).der rs3 ep
    cases p <;> simp only [slice] at ez <;> first | (cases ez; done) | skip
    · have ez := Option.some.inj ez
      subst ez
      have r0 := RR.rp rr
      obtain ⟨ad, vs, rfl, hs, r1⟩ := RR.tup rr
      refine .inl ⟨ad, vs, rfl, by rw [hK]; exact hs, fun hw => ?_, fun _ => w.tup rs3 (cut_rps i j r1)⟩
      rename_i ps
      have e1 : clamp ps.length 0 i = 0 := by have := hw.1; rw [r1.length] at this; exact this
      have e2 : clamp ps.length ps.length j = ps.length := by have := hw.2; rw [r1.length] at this; exact this
      have e : cut ps i j = ps := by
        unfold cut
        rw [e1, e2, List.drop_zero, Nat.sub_zero]
        exact List.take_length
      rw [e] at w
      exact w.at rs3 r0
    · have ez := Option.some.inj ez
      subst ez
      obtain ⟨ad, vs, rfl, hs, r1⟩ := RR.lst rr
      exact .inr ⟨ad, vs, rfl, .inl (.inl hs), w.lst rs3 (cut_rps i j r1)⟩
  · exact b3.elim
theorem se_rev {a : Expr} {a' : E} {kk : Nat} {p1 p2 p3 pos : Pos} (hK : X.K = k.K) (ha : PE X a (rdE k W (s.e a'))) :
    PE X (.Subscript a (.Slice none none (some (.UnaryOp .USub (.Constant (.int 1) kk p1) p2)) p3) pos) (rdE k W (evE cal s (.rev a'))) := by
  refine PE.imp (pe_revL ha) fun σ H Q h => ?_
  refine rdE.imp (rd_one (F := revR) h) fun vx H1 q => ?_
  obtain ⟨g, x, S, rs, rx, bk⟩ := q
  unfold revR at bk
  split at bk
  · rename_i ps ep
    obtain ⟨ad, vs, rfl, hs, r1⟩ := RR.lst (rx.der rs ep)
    exact ⟨ad, vs, rfl, .inl (.inl hs), (Bk.okE bk).lst rs r1.reverse⟩
  · exact bk.elim

/-! ### what is walked -/
/-- the iterator J walks the data ps, from the heap H on -/
def Wk (k : Ka) (g : Gs) (H : Hp) (J : It) (ps : List P) : Prop := ∀ g' H', Gr g H g' H' →
  (∀ (i : Nat) p, ps[i]? = some p → J.go i H' ∧ ∀ x H'' S, RS k g' H' S → J.yld i H' x H'' → Ext g' H' g' H'' ∧ RS k g' H'' S ∧ RP k g' H'' x p) ∧ ∀ i : Nat, ps.length ≤ i → J.stop i H'
def rdI (k : Ka) (W : WX) (f : Loc → Sto → R (List P)) : TI := fun σ H R => ∃ g L S, RL k g H σ L ∧ RS k g H S ∧ Bk k W σ g H (f L S) fun ps _ g' H' => ∀ J, Wk k g' H' J ps → R J H'
theorem Wk.tup {g : Gs} {H : Hp} {a : Addr} {vs : List V} {ps : List P} (hT : TA k.K g H a vs) (r : RPs k g H vs ps) : Wk k g H (Itt k.K a) ps := fun g' H' x => by
  have t' : SqT k.K H' a vs := by
    rcases hT with t | t
    · exact .inl (.inl (x.kp _ _ t.1 t.2))
    · exact TA.sq (g := g) (.inr t)
  have r' := r.gr x
  refine ⟨fun i p e => ?_, fun i hi => ⟨vs, t', by rw [r'.length]; exact hi⟩⟩
  obtain ⟨v, e1, rv⟩ := r'.get e
  refine ⟨⟨vs, v, t', e1⟩, fun z H'' S rs y => ?_⟩
  obtain ⟨rfl, y⟩ := y
  have ez := Option.some.inj ((y vs t').symm.trans e1)
  subst ez
  exact ⟨.refl, rs, rv⟩
theorem Wk.lst {g : Gs} {H : Hp} {a : Addr} {vs : List V} {ps : List P} (hT : H a = some (.lst vs)) (nm : ¬ g.M a) (r : RPs k g H vs ps) : Wk k g H (Itl k.K a) ps := fun g' H' x => by
  have t' : SqL k.K H' a vs := .inl (.inl (x.kp _ _ hT nm))
  have r' := r.gr x
  refine ⟨fun i p e => ?_, fun i hi => ⟨vs, t', by rw [r'.length]; exact hi⟩⟩
  obtain ⟨v, e1, rv⟩ := r'.get e
  refine ⟨⟨vs, v, t', e1⟩, fun z H'' S rs y => ?_⟩
  obtain ⟨rfl, y⟩ := y
  have ez := Option.some.inj ((y vs t').symm.trans e1)
  subst ez
  exact ⟨.refl, rs, rv⟩
theorem Wk.scr {g : Gs} {H : Hp} {a : Addr} {ns : List Int} (hT : ScA k.K g H a (ns.map V.int)) : Wk k g H (Itl k.K a) (ns.map .int) := fun g' H' x => by
  have t' : SqL k.K H' a (ns.map V.int) := by
    rcases hT with ⟨o, t⟩ | t
    · exact .inl (.inr ⟨o, x.kp _ _ t.1 t.2⟩)
    · exact ScA.sq (g := g) (.inr t)
  refine ⟨fun i p e => ?_, fun i hi => ⟨_, t', by rw [List.length_map] at hi ⊢; exact hi⟩⟩
  rw [List.getElem?_map] at e
  obtain ⟨n, e1, rfl⟩ := Option.map_eq_some_iff.mp e
  have e2 : (ns.map V.int)[i]? = some (.int n) := by rw [List.getElem?_map, e1]; rfl
  refine ⟨⟨_, _, t', e2⟩, fun z H'' S rs y => ?_⟩
  obtain ⟨rfl, y⟩ := y
  have ez := Option.some.inj ((y _ t').symm.trans e2)
  subst ez
  exact ⟨.refl, rs, .int n⟩
theorem iota_get : ∀ (n : Nat) (lo : Int) (i : Nat) (p : P), (iota lo n)[i]? = some p → i < n ∧ p = .int (lo + i)
  | 0, _, _, _, h => by simp [iota] at h
  | n + 1, lo, 0, p, h => by
    simp [iota] at h
    subst h
    exact ⟨Nat.succ_pos n, by simp⟩
  | n + 1, lo, i + 1, p, h => by
    obtain ⟨h1, h2⟩ := iota_get n (lo + 1) i p (by simpa [iota] using h)
    refine ⟨Nat.succ_lt_succ h1, ?_⟩
    rw [h2]
    congr 1
    omega
theorem iota_len : ∀ (n : Nat) (lo : Int), (iota lo n).length = n
  | 0, _ => rfl
  | n + 1, lo => congrArg (· + 1) (iota_len n (lo + 1))
theorem Wk.rng {g : Gs} {H : Hp} {lo : Int} {n : Nat} : Wk k g H (Itr lo n) (iota lo n) := fun g' H' x => by
  refine ⟨fun i p e => ?_, fun i hi => by rw [iota_len] at hi; exact hi⟩
  obtain ⟨h1, rfl⟩ := iota_get n lo i p e
  refine ⟨h1, fun z H'' S rs y => ?_⟩
  obtain ⟨rfl, rfl⟩ := y
  exact ⟨.refl, rs, .int _⟩
end
end Mn
/-! Mn9: loops' walks, targets, comprehensions. -/
namespace Mn
open L2 PyProof.Rows PySem.Spec PySem
section
variable {X : Cx} {k : Ka} {W : WX} {cal : Nat → List D → Sto → R D} {s : Ev}
theorem Wk.str {g : Gs} {H : Hp} {x : Str} : Wk k g H (Its x) (x.cps.toList.map fun c => .str ⟨#[c]⟩) := fun g' H' _ => by
  refine ⟨fun i p e => ?_, fun i hi => by simp only [List.length_map, Array.length_toList] at hi; exact hi⟩
  rw [List.getElem?_map] at e
  obtain ⟨c, e1, rfl⟩ := Option.map_eq_some_iff.mp e
  have e2 : x.cps[i]? = some c := by simpa using e1
  refine ⟨(Array.getElem?_eq_some_iff.mp e2).1, fun z H'' S rs y => ?_⟩
  obtain ⟨rfl, d, e3, rfl⟩ := y
  have : c = d := Option.some.inj (e2.symm.trans e3)
  subst this
  exact ⟨.refl, rs, .str _⟩
theorem zips_get : ∀ (ps qs : List P) (i : Nat) (r : P), (zips ps qs)[i]? = some r → ∃ p q, ps[i]? = some p ∧ qs[i]? = some q ∧ r = .tup [p, q]
  | [], _, _, _, h => by simp [zips] at h
  | _ :: _, [], _, _, h => by simp [zips] at h
  | p :: ps, q :: qs, 0, r, h => by
    simp [zips] at h
    exact ⟨p, q, rfl, rfl, h.symm⟩
  | p :: ps, q :: qs, i + 1, r, h => by
    obtain ⟨a, b, h1, h2, h3⟩ := zips_get ps qs i r (by simpa [zips] using h)
    exact ⟨a, b, by simpa using h1, by simpa using h2, h3⟩
theorem zips_len : ∀ (ps qs : List P) (i : Nat), (zips ps qs).length ≤ i → ps.length ≤ i ∨ qs.length ≤ i
  | [], _, _, _ => .inl (Nat.zero_le _)
  | _ :: _, [], _, _ => .inr (Nat.zero_le _)
  | p :: ps, q :: qs, 0, h => by simp [zips] at h
  | p :: ps, q :: qs, i + 1, h => by
    have h' : (zips ps qs).length + 1 ≤ i + 1 := h
    rcases zips_len ps qs i (Nat.le_of_succ_le_succ h') with z | z
    · exact .inl (Nat.succ_le_succ z)
    · exact .inr (Nat.succ_le_succ z)
theorem two_rps {g : Gs} {H : Hp} {v w : V} {p q : P} (a : RP k g H v p) (b : RP k g H w q) : RPs k g H [v, w] [p, q] := .cons a (.cons b .nil)
theorem Wk.zipL {g : Gs} {H : Hp} {a b : Addr} {xs ys : List V} {ps qs : List P} (h1 : H a = some (.lst xs)) (n1 : ¬ g.M a) (r1 : RPs k g H xs ps) (h2 : H b = some (.lst ys)) (n2 : ¬ g.M b) (r2 : RPs k g H ys qs) :
    Wk k g H (Itz k.K a b) (zips ps qs) := fun g' H' x => by
  have q1 : SqL k.K H' a xs := .inl (.inl (x.kp _ _ h1 n1))
  have q2 : SqL k.K H' b ys := .inl (.inl (x.kp _ _ h2 n2))
  have s1 := r1.gr x
  have s2 := r2.gr x
  refine ⟨fun i r e => ?_, fun i hi => ⟨xs, ys, q1, q2, by rw [s1.length, s2.length]; exact zips_len _ _ _ hi⟩⟩
  obtain ⟨p, q, e1, e2, rfl⟩ := zips_get _ _ _ _ e
  obtain ⟨v, e3, rv⟩ := s1.get e1
  obtain ⟨w, e4, rw'⟩ := s2.get e2
  refine ⟨⟨xs, ys, v, w, q1, q2, e3, e4⟩, fun z H'' S rs y => ?_⟩
  obtain ⟨T, v', w', rfl, hT, rfl, y1, y2⟩ := y
  have ev := Option.some.inj ((y1 _ q1).symm.trans e3)
  have ew := Option.some.inj ((y2 _ q2).symm.trans e4)
  subst ev ew
  exact ⟨Ext.laid rs hT _, rs.laid hT _, RP.newTup rs hT (two_rps rv rw')⟩
theorem Wk.zipT {g : Gs} {H : Hp} {a b : Addr} {xs ys : List V} {ps qs : List P} (h1 : TA k.K g H a xs) (r1 : RPs k g H xs ps) (h2 : TA k.K g H b ys) (r2 : RPs k g H ys qs) :
    Wk k g H (RZ.ItzT k.K a b) (zips ps qs) := fun g' H' x => by
  have mv : ∀ {a : Addr} {xs : List V}, TA k.K g H a xs → SqT k.K H' a xs := fun {a xs} t => by
    rcases t with t | t
    · exact .inl (.inl (x.kp _ _ t.1 t.2))
    · exact TA.sq (g := g) (.inr t)
  have q1 := mv h1
  have q2 := mv h2
  have s1 := r1.gr x
  have s2 := r2.gr x
  refine ⟨fun i r e => ?_, fun i hi => ⟨xs, ys, q1, q2, by rw [s1.length, s2.length]; exact zips_len _ _ _ hi⟩⟩
  obtain ⟨p, q, e1, e2, rfl⟩ := zips_get _ _ _ _ e
  obtain ⟨v, e3, rv⟩ := s1.get e1
  obtain ⟨w, e4, rw'⟩ := s2.get e2
  refine ⟨⟨xs, ys, v, w, q1, q2, e3, e4⟩, fun z H'' S rs y => ?_⟩
  obtain ⟨T, v', w', rfl, hT, rfl, y1, y2⟩ := y
  have ev := Option.some.inj ((y1 _ q1).symm.trans e3)
  have ew := Option.some.inj ((y2 _ q2).symm.trans e4)
  subst ev ew
  exact ⟨Ext.laid rs hT _, rs.laid hT _, RP.newTup rs hT (two_rps rv rw')⟩
theorem enums_get : ∀ (ps : List P) (n : Int) (i : Nat) (r : P), (enums n ps)[i]? = some r → ∃ p, ps[i]? = some p ∧ r = .tup [.int (n + i), p]
  | [], _, _, _, h => by simp [enums] at h
  | p :: ps, n, 0, r, h => by
    simp [enums] at h
    exact ⟨p, rfl, by rw [← h]; simp⟩
  | p :: ps, n, i + 1, r, h => by
    obtain ⟨q, h1, h2⟩ := enums_get ps (n + 1) i r (by simpa [enums] using h)
    refine ⟨q, by simpa using h1, ?_⟩
    rw [h2]
    congr 3
    omega
theorem enums_len : ∀ (ps : List P) (n : Int), (enums n ps).length = ps.length
  | [], _ => rfl
  | p :: ps, n => congrArg (· + 1) (enums_len ps (n + 1))
theorem Wk.enumL {g : Gs} {H : Hp} {a : Addr} {xs : List V} {ps : List P} (h1 : H a = some (.lst xs)) (n1 : ¬ g.M a) (r1 : RPs k g H xs ps) : Wk k g H (Ite k.K a) (enums 0 ps) := fun g' H' x => by
  have q1 : SqL k.K H' a xs := .inl (.inl (x.kp _ _ h1 n1))
  have s1 := r1.gr x
  refine ⟨fun i r e => ?_, fun i hi => ⟨xs, q1, by rw [enums_len] at hi; rw [s1.length]; exact hi⟩⟩
  obtain ⟨p, e1, rfl⟩ := enums_get _ _ _ _ e
  obtain ⟨v, e3, rv⟩ := s1.get e1
  refine ⟨⟨xs, v, q1, e3⟩, fun z H'' S rs y => ?_⟩
  obtain ⟨T, v', rfl, hT, rfl, y1⟩ := y
  have ev := Option.some.inj ((y1 _ q1).symm.trans e3)
  subst ev
  refine ⟨Ext.laid rs hT _, rs.laid hT _, RP.newTup rs hT (two_rps ?_ rv)⟩
  rw [Int.zero_add]
  exact .int _

/-! ### the iterators of the text -/
theorem PI.imp {tg e : Expr} {t t' : TI} (h : PI X tg e t') (i : ∀ σ H Q, t σ H Q → t' σ H Q) : PI X tg e t := ⟨fun pins s σ H Q I q => h.run pins s σ H Q I (i σ H Q q)⟩
theorem pie_one {pins : List (Addr × Obj)} {σ : Ls} {H : Hp} {s : Shared} {Rr : It → Hp → Prop} {tg : Expr} {J : It} {tn : Nat → Heap → Prop} {o : Obj} (I : Inv X pins σ H s) (T : Turn X.prog X.w X.K tg J [s.heap.objs.size] s.heap.objs.size tn)
    (h0 : tn 0 (s.heap.push o)) (q : Rr J H) : PIE X pins σ tg Rr (.ref s.heap.objs.size) { s with heap := s.heap.push o } := by
  refine ⟨_, _, tn, J, H, rfl, I.kept (t' := s.toks) fun b o e => Heap.get?_push_of_some _ e, T, h0, fun b hb => ?_, q⟩
  rw [List.mem_singleton.mp hb]
  exact I.fpOk (Nat.le_refl _) (I.hok.fresh (Nat.le_refl _))
/-- anything that is walked as it is -/
theorem pi_any {tg e : Expr} {te : TE} (he : PE X e te) : PI X tg e fun σ H R => te σ H fun v H1 =>
    (∃ a vs, v = .ref a ∧ SqT X.K H1 a vs ∧ R (Itt X.K a) H1) ∨ (∃ a vs, v = .ref a ∧ SqL X.K H1 a vs ∧ R (Itl X.K a) H1) ∨ ∃ x, v = .str x ∧ R (Its x) H1 := by
  refine ⟨fun pins s σ H R I h => thn (he.run pins s σ H _ I h) fun u s1 ⟨v, H1, I1, r1, q1⟩ => ?_⟩
  rcases q1 with ⟨a, vs, rfl, hq, q⟩ | ⟨a, vs, rfl, hq, q⟩ | ⟨x, rfl, q⟩
  · obtain rfl : u = .ref a := r1
    obtain ⟨its, _, p, _⟩ := I1.tuple hq
    exact wpAny_pyIter_tuple (show s1.heap.IsTuple a its.toArray from p) (pie_one I1 (turn_tuple a _) ⟨_, Heap.get?_push_size _ rfl, rfl, rfl⟩ q)
  · obtain rfl : u = .ref a := r1
    obtain ⟨its, _, p, _⟩ := I1.list hq
    exact wpAny_pyIter_list p.isList (pie_one I1 (turn_list a _) ⟨_, Heap.get?_push_size _ rfl, rfl, rfl⟩ q)
  · obtain ⟨t, rfl⟩ := r1
    cases ha : x.cps.all (· < 128)
    · exact wpAny_pyIter_wide ha (pie_one I1 (turn_str _ x t "str_iterator" (.inr rfl)) ⟨_, Heap.get?_push_size _ rfl, rfl, rfl⟩ q)
    · exact wpAny_pyIter_ascii ha (pie_one I1 (turn_str _ x t "str_ascii_iterator" (.inl rfl)) ⟨_, Heap.get?_push_size _ rfl, rfl, rfl⟩ q)
/-- what a for walks, in the evaluator -/
def walkE (s : Ev) (kk : Sk) (es : List E) : Loc → Sto → R (List P) := fun L S => (evs s es L S).bind fun ds S1 => walkR kk ds S1
theorem rdI_args {kk : Sk} {es : List E} {σ : Ls} {H : Hp} {Rr : It → Hp → Prop} (h : rdI k W (walkE s kk es) σ H Rr) :
    rdA k W (evs s es) σ H fun vs H1 => ∃ g S qs ps, RS k g H1 S ∧ RPs k g H1 vs qs ∧ walk kk qs = some ps ∧ ∀ J, Wk k g H1 J ps → Rr J H1 := by
  obtain ⟨g, L, S, rl, rs, b⟩ := h
  refine ⟨g, L, S, rl, rs, b.bind.imp fun ds S1 g1 H1 e1 rs1 bk vs rv => ?_⟩
  unfold walkR at bk
  split at bk
  · rename_i qs eq
    unfold lift at bk
    split at bk
    · rename_i ps ep
      exact ⟨g1, S1, qs, ps, rs1, rv.ofP eq, ep, bk.here rs1⟩
    · exact bk.elim
  · exact bk.elim
theorem si_it {tg e : Expr} {e' : E} (hK : X.K = k.K) (he : PE X e (rdE k W (s.e e'))) : PI X tg e (rdI k W (walkE s .it [e'])) := by
  refine PI.imp (pi_any he) fun σ H Rr h => ?_
  obtain ⟨g, L, S, rl, rs, b⟩ := h
  refine ⟨g, L, S, rl, rs, ?_⟩
  have b0 := b.bind.bind
  refine b0.imp fun d S1 g1 H1 e1 rs1 b1 v rv => ?_
  have b1 : Bk k W σ g1 H1 (walkR .it [d] S1) fun ps _ g' H' => ∀ J, Wk k g' H' J ps → Rr J H' := b1.here rs1
  unfold walkR at b1
  cases d with
  | ref n => exact b1.elim
  | p x =>
    have b2 : Bk k W σ g1 H1 (lift S1 (walk .it [x])) fun ps _ g' H' => ∀ J, Wk k g' H' J ps → Rr J H' := b1
    cases rv' : (show RP k g1 H1 v x from rv) with
    | str y => exact .inr (.inr ⟨y, rfl, b2.here rs1 _ Wk.str⟩)
    | tup t r => exact .inl ⟨_, _, rfl, by rw [hK]; exact t.sq, by rw [hK]; exact b2.here rs1 _ (Wk.tup t r)⟩
    | lst t n r => exact .inr (.inl ⟨_, _, rfl, by rw [hK]; exact .inl (.inl t), by rw [hK]; exact b2.here rs1 _ (Wk.lst t n r)⟩)
    | scr t => exact .inr (.inl ⟨_, _, rfl, by rw [hK]; exact t.sq, by rw [hK]; exact b2.here rs1 _ (Wk.scr t)⟩)
    | non => exact b2.elim
    | bl _ => exact b2.elim
    | int _ => exact b2.elim
theorem inR_of {i : Int} (h : inR i = true) : -(2 ^ 62) ≤ i ∧ i < 2 ^ 62 := by
  unfold inR at h
  simpa [Bool.and_eq_true, decide_eq_true_eq] using h
theorem RPs.ints1 {g : Gs} {H : Hp} {vs : List V} {j : Int} (h : RPs k g H vs [.int j]) : vs = [.int j] := by
  cases h with
  | cons a b =>
    cases a
    cases b
    rfl
theorem RPs.ints2 {g : Gs} {H : Hp} {vs : List V} {i j : Int} (h : RPs k g H vs [.int i, .int j]) : vs = [.int i, .int j] := by
  cases h with
  | cons a b =>
    cases a
    rw [RPs.ints1 b]
theorem si_rng1 {tg a : Expr} {a' : E} {p pos : Pos} (hg : Gl X "range") (hm : X.mg "range" = none) (hst : noStar a = true) (ha : PA X [a] (rdA k W (evs s [a']))) : PI X tg (.Call (.Name "range" p) [a] [] pos) (rdI k W (walkE s .rng1 [a'])) := by
  refine PI.imp (pi_range1 hg hm ha (star_of hst [] X.env)) fun σ H Rr h => ?_
  refine rdA.imp (rdI_args h) fun vs H1 q => ?_
  obtain ⟨g, S, qs, ps, rs, rv, hw, q⟩ := q
  have hw : wR1 qs = some ps := hw
  unfold wR1 at hw
  split at hw <;> first | (cases hw; done) | skip
  rename_i j _
  split at hw
  · rename_i hj
    cases hw
    obtain ⟨h1, h2⟩ := inR_of hj
    exact ⟨j, rv.ints1, h1, h2, q _ Wk.rng⟩
  · cases hw
theorem si_rng2 {tg a b : Expr} {a' b' : E} {p pos : Pos} (hg : Gl X "range") (hm : X.mg "range" = none) (hst : noStar a = true) (hst2 : noStar b = true) (ha : PA X [a, b] (rdA k W (evs s [a', b']))) :
    PI X tg (.Call (.Name "range" p) [a, b] [] pos) (rdI k W (walkE s .rng2 [a', b'])) := by
  refine PI.imp (pi_range2 hg hm ha (by rw [star_of hst, star_of hst2]; rfl) (star_of hst2 [] X.env)) fun σ H Rr h => ?_
  refine rdA.imp (rdI_args h) fun vs H1 q => ?_
  obtain ⟨g, S, qs, ps, rs, rv, hw, q⟩ := q
  have hw : wR2 qs = some ps := hw
  unfold wR2 at hw
  split at hw <;> first | (cases hw; done) | skip
  rename_i i j _
  split at hw
  · rename_i hj
    cases hw
    rw [Bool.and_eq_true] at hj
    obtain ⟨h1, h2⟩ := inR_of hj.1
    obtain ⟨h3, h4⟩ := inR_of hj.2
    exact ⟨i, j, rv.ints2, ⟨h1, h2, h3, h4⟩, q _ Wk.rng⟩
  · cases hw
theorem si_zip {a b : Expr} {a' b' : E} {p pos tpos : Pos} {elts : List Expr} {kk : Nat} (hK : X.K = k.K) (hg : Gl X "zip") (hm : X.mg "zip" = none) (hst : noStar a = true) (hst2 : noStar b = true) (ha : PA X [a, b] (rdA k W (evs s [a', b']))) :
    PI X (.Tuple elts kk tpos) (.Call (.Name "zip" p) [a, b] [] pos) (rdI k W (walkE s .zip [a', b'])) := by
  refine PI.imp (RZ.pi_zipA hg hm ha (star_of hst [b] X.env) (by rw [star_of hst2]; rfl)) fun σ H Rr h => ?_
  refine rdA.imp (rdI_args h) fun vs H1 q => ?_
  obtain ⟨g, S, qs, ps, rs, rv, hw, q⟩ := q
  have hw : wZip qs = some ps := hw
  unfold wZip at hw
  split at hw <;> first | (cases hw; done) | skip
  · cases hw
    cases rv with
    | cons r1 r2 =>
      cases r2 with
      | cons r2 r3 =>
        cases r3
        cases r1 with
        | tup t1 r1 =>
          cases r2 with
          | tup t2 r2 => exact ⟨_, _, _, _, rfl, .inr ⟨by rw [hK]; exact t1.sq, by rw [hK]; exact t2.sq, by rw [hK]; exact q _ (Wk.zipT t1 r1 t2 r2)⟩⟩
  · cases hw
    cases rv with
    | cons r1 r2 =>
      cases r2 with
      | cons r2 r3 =>
        cases r3
        cases r1 with
        | lst t1 n1 r1 =>
          cases r2 with
          | lst t2 n2 r2 => exact ⟨_, _, _, _, rfl, .inl ⟨by rw [hK]; exact .inl (.inl t1), by rw [hK]; exact .inl (.inl t2), by rw [hK]; exact q _ (Wk.zipL t1 n1 r1 t2 n2 r2)⟩⟩
theorem si_enum {a : Expr} {a' : E} {p pos tpos : Pos} {elts : List Expr} {kk : Nat} (hK : X.K = k.K) (hg : Gl X "enumerate") (hm : X.mg "enumerate" = none) (hst : noStar a = true) (ha : PA X [a] (rdA k W (evs s [a']))) :
    PI X (.Tuple elts kk tpos) (.Call (.Name "enumerate" p) [a] [] pos) (rdI k W (walkE s .enum [a'])) := by
  refine PI.imp (pi_enum hg hm ha (star_of hst [] X.env)) fun σ H Rr h => ?_
  refine rdA.imp (rdI_args h) fun vs H1 q => ?_
  obtain ⟨g, S, qs, ps, rs, rv, hw, q⟩ := q
  have hw : wEn qs = some ps := hw
  unfold wEn at hw
  split at hw <;> first | (cases hw; done) | skip
  · cases hw
    cases rv with
    | cons r1 r2 =>
      cases r2
      cases r1 with
      | lst t1 n1 r1 => exact ⟨_, _, rfl, by rw [hK]; exact .inl (.inl t1), by rw [hK]; exact q _ (Wk.enumL t1 n1 r1)⟩
end
end Mn
/-! Mn10: targets, comprehensions. -/
namespace Mn
open L2 PyProof.Rows PySem.Spec PySem
/-! ### targets -/
mutual
def slots : Tg → List Nat
  | .n i => [i]
  | .t ts => slotss ts
def slotss : List Tg → List Nat
  | [] => []
  | t :: ts => slots t ++ slotss ts
end
/-- σ changed at the slots alone -/
def Out (vs : List Nat) (σ σ1 : Ls) : Prop := σ1.length = σ.length ∧ ∀ i : Nat, i ∉ vs → σ1[i]? = σ[i]?
theorem Out.trans {a b : List Nat} {σ σ1 σ2 : Ls} (h : Out a σ σ1) (h' : Out b σ1 σ2) : Out (a ++ b) σ σ2 :=
  ⟨h'.1.trans h.1, fun i hi => (h'.2 i fun z => hi (List.mem_append_right _ z)).trans (h.2 i fun z => hi (List.mem_append_left _ z))⟩
section
variable {X : Cx} {k : Ka} {W : WX} {g : Gs} {H : Hp} {σ : Ls} {L : Loc}
theorem RL.set (h : RL k g H σ L) {i : Nat} {v : V} {d : D} (r : RD k g H v d) : RL k g H (σ.set i (some v)) (setL L i d) := by
  refine ⟨by rw [List.length_set]; unfold setL; rw [List.length_set]; exact h.1, fun j e hj => ?_⟩
  unfold setL at hj
  by_cases hij : i = j
  · subst hij
    have hl : i < L.length := by
      have := (List.getElem?_eq_some_iff.mp hj).1
      rwa [List.length_set] at this
    rw [List.getElem?_set_self hl] at hj
    have e1 : d = e := Option.some.inj (Option.some.inj hj)
    subst e1
    exact ⟨v, List.getElem?_set_self (by rw [h.1]; exact hl), r⟩
  · rw [List.getElem?_set_ne hij] at hj
    obtain ⟨v', e1, r'⟩ := h.2 j e hj
    exact ⟨v', by rw [List.getElem?_set_ne hij]; exact e1, r'⟩
theorem RL.wipe (h : RL k g H σ L) : ∀ vs : List Nat, RL k g H (L2.wipe σ vs) (wipeL L vs)
  | [] => h
  | v :: vs => by
    have ih := RL.wipe h vs
    unfold L2.wipe wipeL
    refine ⟨by rw [List.length_set, List.length_set]; exact ih.1, fun j e hj => ?_⟩
    by_cases hij : v = j
    · subst hij
      have hl := (List.getElem?_eq_some_iff.mp hj).1
      rw [List.length_set] at hl
      rw [List.getElem?_set_self hl] at hj
      cases hj
    · rw [List.getElem?_set_ne hij] at hj
      obtain ⟨v', e1, r'⟩ := ih.2 j e hj
      exact ⟨v', by rw [List.getElem?_set_ne hij]; exact e1, r'⟩
def rdG (k : Ka) (tg : Tg) : TG := fun v σ H Q => ∃ g L d L1, RL k g H σ L ∧ RD k g H v d ∧ asg tg d L = some L1 ∧ ∀ σ1, RL k g H σ1 L1 → Out (slots tg) σ σ1 → Q σ1 H
def rdGs (k : Ka) (ts : List Tg) : TGs := fun vs σ H Q => ∃ g L ps L1, RL k g H σ L ∧ RPs k g H vs ps ∧ asgs ts ps L = some L1 ∧ ∀ σ1, RL k g H σ1 L1 → Out (slotss ts) σ σ1 → Q σ1 H
theorem PG.imp {e : Expr} {t t' : TG} (h : PG X e t') (i : ∀ v σ H Q, t v σ H Q → t' v σ H Q) : PG X e t := ⟨fun pins s σ H v u Q I r q => h.run pins s σ H v u Q I r (i v σ H Q q)⟩
theorem PGs.imp {e : List Expr} {t t' : TGs} (h : PGs X e t') (i : ∀ v σ H Q, t v σ H Q → t' v σ H Q) : PGs X e t := ⟨fun pins s σ H v u Q I r q => h.run pins s σ H v u Q I r (i v σ H Q q)⟩
theorem sg_name {i : Nat} {x : Str} {pos : Pos} (hN : X.N.Nodup) (hi : X.N[i]? = some x) (hx : L2.Loc X.env.scope x) (hf : X.fn x = true ∨ X.env.scope.names.lookup x = some .local) : PG X (.Name x pos) (rdG k (.n i)) := by
  refine PG.imp (pg_name hN hi hx hf) fun v σ H Q h => ?_
  obtain ⟨g, L, d, L1, rl, rd, e, q⟩ := h
  unfold asg at e
  split at e
  · cases e
    exact q _ (rl.set rd) ⟨List.length_set .., fun j hj => List.getElem?_set_ne (fun z => hj (by unfold slots; simp [z]))⟩
  · cases e
theorem sg_nil : PGs X [] (rdGs k []) := by
  refine PGs.imp pgs_nil fun vs σ H Q h => ?_
  obtain ⟨g, L, ps, L1, rl, rp, e, q⟩ := h
  cases ps with
  | nil =>
    cases rp
    unfold asgs at e
    cases e
    exact ⟨rfl, q σ rl ⟨rfl, fun _ _ => rfl⟩⟩
  | cons p ps => simp [asgs] at e
theorem sg_cons {e : Expr} {es : List Expr} {t : Tg} {ts : List Tg} (h1 : PG X e (rdG k t)) (h2 : PGs X es (rdGs k ts)) (hst : noStar e = true) : PGs X (e :: es) (rdGs k (t :: ts)) := by
  refine PGs.imp (pgs_cons h1 h2 (by cases e <;> first | rfl | cases hst)) fun vs σ H Q h => ?_
  obtain ⟨g, L, ps, L1, rl, rp, e, q⟩ := h
  cases ps with
  | nil => simp [asgs] at e
  | cons p ps =>
    cases rp with
    | cons r1 r2 =>
      unfold asgs at e
      obtain ⟨L2, e1, e2⟩ := Option.bind_eq_some_iff.mp e
      refine ⟨_, _, rfl, g, L, .p p, L2, rl, r1, e1, fun σ1 rl1 o1 => ⟨g, L2, ps, L1, rl1, r2, e2, fun σ2 rl2 o2 => q σ2 rl2 ?_⟩⟩
      unfold slotss
      exact o1.trans o2
theorem asgs_len : ∀ {ts : List Tg} {ps : List P} {L L1 : Loc}, asgs ts ps L = some L1 → ps.length = ts.length
  | [], [], _, _, _ => rfl
  | t :: ts, p :: ps, L, L1, e => by
    unfold asgs at e
    obtain ⟨L2, _, e2⟩ := Option.bind_eq_some_iff.mp e
    exact congrArg (· + 1) (asgs_len e2)
  | [], _ :: _, _, _, e => by simp [asgs] at e
  | _ :: _, [], _, _, e => by simp [asgs] at e
theorem starN : ∀ {es : List Expr} (env : Env), es.all noStar = true → (assignEach es env).length = es.length ∧ (assignEach es env).findIdx? (·.1) = none
  | [], _, _ => ⟨rfl, rfl⟩
  | e :: es, env, h => by
    rw [List.all_cons, Bool.and_eq_true] at h
    obtain ⟨h1, h2⟩ := starN env h.2
    have e1 : assignEach (e :: es) env = (false, assign e env) :: assignEach es env := by
      have := h.1
      cases e <;> first | rfl | cases this
    rw [e1]
    refine ⟨congrArg (· + 1) h1, ?_⟩
    rw [List.findIdx?_cons]
    rw [h2]
    rfl
theorem sg_tup {es : List Expr} {ts : List Tg} {kt : Nat} {pos : Pos} (hK : X.K = k.K) (hc : X.calm = true) (hl : es.length = ts.length) (hst : es.all noStar = true) (h : PGs X es (rdGs k ts)) : PG X (.Tuple es kt pos) (rdG k (.t ts)) := by
  obtain ⟨s1, s2⟩ := starN X.env hst
  refine PG.imp (pg_tup hc h s1 s2) fun v σ H Q h => ?_
  obtain ⟨g, L, d, L1, rl, rd, e, q⟩ := h
  have hd : ∃ ps, d = .p (.tup ps) := by
    cases d with
    | ref n => simp [asg] at e
    | p x => cases x <;> first | exact ⟨_, rfl⟩ | simp [asg] at e
  obtain ⟨ps, rfl⟩ := hd
  unfold asg at e
  cases (show RP k g H v (.tup ps) from rd) with
  | tup t r => exact ⟨_, _, rfl, by rw [hK]; exact t.sq, by rw [r.length, asgs_len e, hl], g, L, ps, L1, rl, r, e, q⟩
end

/-! ### comprehensions -/
section
variable {X : Cx} {k : Ka} {W : WX} {cal : Nat → List D → Sto → R D} {s : Ev}
def WN : WX := fun _ _ _ _ => False
theorem wipe_out {vs ws : List Nat} {σ σ1 : Ls} (h : Out ws (L2.wipe σ vs) σ1) (hs : ∀ i ∈ ws, i ∈ vs) : L2.wipe σ1 vs = L2.wipe σ vs := by
  apply List.ext_getElem?
  intro i
  have hl : (L2.wipe σ1 vs).length = (L2.wipe σ vs).length := by rw [wipe_length, h.1]
  by_cases hi : i ∈ vs
  · have no : ∀ τ : Ls, i < (L2.wipe τ vs).length → (L2.wipe τ vs)[i]? = some none := fun τ ht => by
      cases q : (L2.wipe τ vs)[i]? with
      | none => rw [List.getElem?_eq_none_iff] at q; omega
      | some o =>
        cases o with
        | none => rfl
        | some v => exact absurd hi (wipe_some q).2
    by_cases hb : i < (L2.wipe σ vs).length
    · rw [no σ hb, no σ1 (by rw [hl]; exact hb)]
    · rw [List.getElem?_eq_none (by rw [hl]; omega), List.getElem?_eq_none (by omega)]
  · have same : ∀ (τ : Ls) (us : List Nat), i ∉ us → (L2.wipe τ us)[i]? = τ[i]? := fun τ us hu => by
      induction us with
      | nil => rfl
      | cons u us ih =>
        unfold L2.wipe
        rw [List.getElem?_set_ne (fun z => hu (by simp [z]))]
        exact ih fun z => hu (List.mem_cons_of_mem _ z)
    rw [same σ1 vs hi, h.2 i fun z => hi (hs i z)]
theorem R.bind_assoc {α β γ : Type} (r : R α) (f : α → Sto → R β) (h : β → Sto → R γ) : (r.bind f).bind h = r.bind fun a S => (f a S).bind h := by
  cases r <;> rfl
theorem noEx_bk {α β : Type} {r : R α} {f : α → Sto → R β} {σ : Ls} {g : Gs} {H : Hp} {Q : β → Sto → Gs → Hp → Prop} (b : Bk k W σ g H ((noEx r).bind f) Q) : ∃ a S, r = .ok a S ∧ Bk k W σ g H (f a S) Q := by
  cases r with
  | ok a S => exact ⟨a, S, rfl, b⟩
  | ex _ _ => exact b.elim
  | bad => exact b.elim

/-! a new list, foreign while it is made -/
def Gs.sh (g : Gs) (p : Addr) : Gs := ⟨fun a => g.F a ∨ a = p, g.ρ⟩
def Gs.un (g : Gs) (F : Addr → Prop) : Gs := ⟨F, g.ρ⟩
theorem Gr.trans {g g1 g2 : Gs} {H H1 H2 : Hp} (x : Gr g H g1 H1) (y : Gr g1 H1 g2 H2) : Gr g H g2 H2 :=
  ⟨fun a o h n => y.kp a o (x.kp a o h n) (x.notM a o h n), fun a o h n => y.notM a o (x.kp a o h n) (x.notM a o h n), fun n a h => y.ref n a (x.ref n a h)⟩
theorem Gr.refl {g : Gs} {H : Hp} : Gr g H g H := ⟨fun _ _ h _ => h, fun _ _ _ n => n, fun _ _ h => h⟩
/-- the new list stands; nothing knows it -/
structure Mk (k : Ka) (g0 : Gs) (H0 : Hp) (p : Addr) (g : Gs) (H : Hp) (S : Sto) (acc : List V) (xs : List P) : Prop where
  nw : H0 p = none
  F : ∀ a, g.F a ↔ (g0.F a ∨ a = p)
  ext : Ext g0 H0 (g.un g0.F) H
  rs : RS k g H S
  at_ : H p = some (.lst acc)
  ac : RPs k g H acc xs
section
variable {g0 g : Gs} {H0 H : Hp} {p : Addr} {S : Sto} {acc : List V} {xs : List P}
theorem Mk.gr (m : Mk k g0 H0 p g H S acc xs) : Gr g0 H0 g H := by
  refine ⟨fun a o h n => m.ext.at h n, fun a o h n z => ?_, fun n a h => m.ext.ref h⟩
  rcases z with z | z
  · rcases (m.F a).mp z with z | z
    · exact n (.inl z)
    · rw [z, m.nw] at h; cases h
  · exact m.ext.notM h n (.inr z)
theorem Mk.start (rs : RS k g0 H0 S) (hp : H0 p = none) : Mk k g0 H0 p (g0.sh p) (upd H0 p (.lst [])) S [] [] := by
  have x : Ext g0 H0 g0 (upd H0 p (.lst [])) := Ext.laid rs hp _
  refine ⟨hp, fun a => Iff.rfl, ⟨rfl, ⟨[], by simp [Gs.sh, Gs.un], fun _ z => nomatch z⟩, x.keep, x.live⟩, ?_, upd_same, .nil⟩
  have np : ∀ a ∈ g0.ρ, a ≠ p := fun a ha z => by
    obtain ⟨_, _, _, _, _, e, _⟩ := rs.live ha
    rw [z, hp] at e; cases e
  refine ⟨rs.len, rs.nd, fun a z => ?_, fun a ha z => ?_, fun n a ds e1 e2 => ?_⟩
  · rcases z with z | z
    · obtain ⟨o, e⟩ := rs.fl a z
      exact x.live a o e
    · rw [z]; exact ⟨_, upd_same⟩
  · rcases z with z | z
    · exact rs.dj a ha z
    · exact np a ha z
  · obtain ⟨vs, h1, h2⟩ := rs.cell n a ds e1 e2
    have y : Gr g0 H0 (g0.sh p) (upd H0 p (.lst [])) := by
      refine ⟨fun b o h nm => by rw [upd_ne (ne_of_none h hp)]; exact h, fun b o h nm z => ?_, fun _ _ h => h⟩
      rcases z with (z | z) | z
      · exact nm (.inl z)
      · rw [z, hp] at h; cases h
      · exact nm (.inr z)
    exact ⟨vs, by rw [upd_ne (np a (List.mem_of_getElem? e1))]; exact h1, h2.gr y⟩
theorem Mk.notin (m : Mk k g0 H0 p g H S acc xs) : p ∉ g.ρ := fun z => m.rs.dj p z ((m.F p).mpr (.inr rfl))
/-- something else is done -/
theorem Mk.step (m : Mk k g0 H0 p g H S acc xs) {g1 : Gs} {H1 : Hp} {S1 : Sto} (x : Ext g H g1 H1) (rs : RS k g1 H1 S1) : Mk k g0 H0 p g1 H1 S1 acc xs := by
  refine ⟨m.nw, fun a => by rw [x.F]; exact m.F a, m.ext.trans ⟨rfl, x.pre, x.keep, x.live⟩, rs, x.keep p _ m.at_ m.notin, m.ac.mono x⟩
theorem Mk.grown (m : Mk k g0 H0 p g H S acc xs) : Gr g H g (upd H p (.lst (acc ++ []))) := by
  refine ⟨fun a o h n => ?_, fun a o _ n => n, fun _ _ h => h⟩
  have : a ≠ p := fun z => n (.inl ((m.F a).mpr (.inr z)))
  rw [upd_ne this]; exact h
/-- it takes one more -/
theorem Mk.app (m : Mk k g0 H0 p g H S acc xs) {v : V} {x : P} (r : RP k g H v x) : Mk k g0 H0 p g (upd H p (.lst (acc ++ [v]))) S (acc ++ [v]) (xs ++ [x]) := by
  have y : Gr g H g (upd H p (.lst (acc ++ [v]))) := by
    refine ⟨fun a o h n => ?_, fun a o _ n => n, fun _ _ h => h⟩
    have : a ≠ p := fun z => n (.inl ((m.F a).mpr (.inr z)))
    rw [upd_ne this]; exact h
  refine ⟨m.nw, m.F, ?_, ?_, upd_same, (m.ac.gr y).append (.cons (r.gr y) .nil)⟩
  · refine ⟨rfl, m.ext.pre, fun a o h n => ?_, fun a o h => ?_⟩
    · rw [upd_ne (ne_of_none h m.nw)]; exact m.ext.keep a o h n
    · rw [upd_ne (ne_of_none h m.nw)]; exact m.ext.live a o h
  · refine ⟨m.rs.len, m.rs.nd, fun a z => ?_, m.rs.dj, fun n a ds e1 e2 => ?_⟩
    · by_cases q : a = p
      · rw [q]; exact ⟨_, upd_same⟩
      · rw [upd_ne q]; exact m.rs.fl a z
    · obtain ⟨vs, h1, h2⟩ := m.rs.cell n a ds e1 e2
      have : a ≠ p := fun z => m.notin (z ▸ List.mem_of_getElem? e1)
      exact ⟨vs, by rw [upd_ne this]; exact h1, h2.gr y⟩
/-- it is done: data -/
theorem Mk.frz (m : Mk k g0 H0 p g H S acc xs) (r0 : RS k g0 H0 S1) : RS k (g.un g0.F) H S ∧ RD k (g.un g0.F) H (.ref p) (.p (.lst xs)) := by
  have y : Gr g H (g.un g0.F) H := ⟨fun _ _ h _ => h, fun a o _ n z => n (z.imp (fun q => (m.F a).mpr (.inl q)) id), fun _ _ h => h⟩
  have np : ¬ g0.F p := fun z => by
    obtain ⟨o, e⟩ := r0.fl p z
    rw [m.nw] at e; cases e
  refine ⟨⟨m.rs.len, m.rs.nd, fun a z => m.rs.fl a ((m.F a).mpr (.inl z)), fun a ha z => m.rs.dj a ha ((m.F a).mpr (.inl z)), fun n a ds e1 e2 => ?_⟩, RP.lst m.at_ (fun z => z.elim np m.notin) (m.ac.gr y)⟩
  obtain ⟨vs, h1, h2⟩ := m.rs.cell n a ds e1 e2
  exact ⟨vs, h1, h2.gr y⟩
/-- it is done: a cell -/
theorem Mk.own (m : Mk k g0 H0 p g H S acc xs) (r0 : RS k g0 H0 S1) : Ext g0 H0 ((g.un g0.F).add p) H ∧ RS k ((g.un g0.F).add p) H (S ++ [.lst (xs.map .p)]) ∧ RD k ((g.un g0.F).add p) H (.ref p) (.ref S.length) := by
  have np : ¬ g0.F p := fun z => by
    obtain ⟨o, e⟩ := r0.fl p z
    rw [m.nw] at e; cases e
  have y : Gr g H ((g.un g0.F).add p) H := by
    refine ⟨fun _ _ h _ => h, fun a o _ n z => ?_, fun n a h => ?_⟩
    · rcases z with z | z
      · exact n (.inl ((m.F a).mpr (.inl z)))
      · rcases List.mem_append.mp z with z | z
        · exact n (.inr z)
        · exact n (.inl ((m.F a).mpr (.inr (List.mem_singleton.mp z))))
    · show (g.ρ ++ [p])[n]? = some a
      rw [List.getElem?_append_left (List.getElem?_eq_some_iff.mp h).1]; exact h
  obtain ⟨t, e, ht⟩ := m.ext.pre
  have e : g.ρ = g0.ρ ++ t := e
  refine ⟨⟨rfl, ⟨t ++ [p], ?_, fun q z => ?_⟩, m.ext.keep, m.ext.live⟩, ⟨?_, ?_, fun a z => m.rs.fl a ((m.F a).mpr (.inl z)), fun a ha z => ?_, fun n a ds e1 e2 => ?_⟩, p, rfl, ?_⟩
  · show g.ρ ++ [p] = g0.ρ ++ (t ++ [p])
    rw [e, List.append_assoc]
  · rcases List.mem_append.mp z with z | z
    · exact ht q z
    · rw [List.mem_singleton.mp z]; exact m.nw
  · show (g.ρ ++ [p]).length = (S ++ [MO.lst (xs.map D.p)]).length
    rw [List.length_append, List.length_append, m.rs.len]; rfl
  · show (g.ρ ++ [p]).Nodup
    rw [List.nodup_append]
    refine ⟨m.rs.nd, by simp, fun a ha b hb z => ?_⟩
    rw [List.mem_singleton.mp hb] at z
    exact m.notin (z ▸ ha)
  · rcases List.mem_append.mp ha with q | q
    · exact m.rs.dj a q ((m.F a).mpr (.inl z))
    · rw [List.mem_singleton.mp q] at z
      exact np z
  · have e1 : (g.ρ ++ [p])[n]? = some a := e1
    by_cases hn : n < g.ρ.length
    · rw [List.getElem?_append_left hn] at e1
      rw [List.getElem?_append_left (by rw [← m.rs.len]; exact hn)] at e2
      obtain ⟨ws, h1, h2⟩ := m.rs.cell n a ds e1 e2
      exact ⟨ws, h1, h2.gr y⟩
    · have hn' : n = g.ρ.length := by
        have := (List.getElem?_eq_some_iff.mp e1).1
        rw [List.length_append] at this
        have h1 : ([p] : List Addr).length = 1 := rfl
        omega
      subst hn'
      rw [List.getElem?_append_right (Nat.le_refl _)] at e1
      rw [m.rs.len, List.getElem?_append_right (Nat.le_refl _)] at e2
      simp at e1 e2
      subst e1 e2
      exact ⟨acc, m.at_, (m.ac.gr y).toD⟩
  · show (g.ρ ++ [p])[S.length]? = some p
    rw [← m.rs.len, List.getElem?_append_right (Nat.le_refl _)]
    simp
end

theorem se_lc {own : Bool} {ow : List (Str × Nat)} {tg : Tg} {kk : Sk} {es : List E} {cond : Option E} {el : E} {elt tgE iter : Expr} {ifs : List Expr} {scope : Scope} {pos : Pos} {tt : TT}
    (hc : X.calm = true) (hN : X.N.Nodup) (hi : PI X tgE iter (rdI k W (walkE s kk es))) (ok : BlkOk X.N X.env.scope scope ow) (hsl : ∀ i ∈ slots tg, i ∈ ow.map (·.2)) (hsf : ∀ x, foldedSetIterable iter X.env x = pure x)
    (htt : tt = match cond with | none => tYes | some c => rdT k WN (s.t c))
    (hg : ∀ (s0 : Shared) (H : Hp) (C : Addr) (cl : List (Str × Addr)) (fp : List Addr), PG (X.blk s0 H scope (compEnvC scope cl C X.env) fp) tgE (rdG k tg))
    (ht : ∀ (s0 : Shared) (H : Hp) (C : Addr) (cl : List (Str × Addr)) (fp : List Addr), PTs (X.blk s0 H scope (compEnvC scope cl C X.env) fp) ifs tt)
    (he : ∀ (s0 : Shared) (H : Hp) (C : Addr) (cl : List (Str × Addr)) (fp : List Addr), PE (X.blk s0 H scope (compEnvC scope cl C X.env) fp) elt (rdE k WN (s.e el))) :
    ∀ (σ : Ls) (H : Hp) (Q : VK), rdE k W (evE cal s (.lc own (ow.map (·.2)) tg kk es cond el)) σ H Q → tLc (rdI k W (walkE s kk es)) (rdG k tg) tt (rdE k WN (s.e el)) (ow.map (·.2)) σ H Q := by
  intro σ H Q h
  obtain ⟨g, L, S, rl, rs, b⟩ := h
  generalize hvs : ow.map (·.2) = vs at *
  have b : Bk k W σ g H ((walkE s kk es L S).bind fun ps S2 => (noEx (lcP s (wipeL L vs) tg cond el ps S2)).bind fun xs S3 => if xs.length < line then (if own then (.ok (.ref S3.length) (S3 ++ [.lst (xs.map .p)]) : R D) else .ok (.p (.lst xs)) S3) else .bad) fun d _ g' H' => ∀ v, RD k g' H' v d → Q v H' := by
    unfold walkE
    rw [R.bind_assoc]
    exact b
  refine ⟨g, L, S, rl, rs, b.bind.imp fun ps S2 g1 H1 e1 rs1 b1 J wk Dd hD => ?_⟩
  obtain ⟨xs, S3, run, b2⟩ := noEx_bk b1
  have rl1 : RL k g1 H1 (L2.wipe σ vs) (wipeL L vs) := (rl.mono e1).wipe vs
  refine ⟨fun i m H' => m = ps.length - i ∧ i ≤ ps.length ∧ ∃ gs S' acc x0 ys, Mk k g1 H1 Dd gs H' S' acc x0 ∧ lcP s (wipeL L vs) tg cond el (ps.drop i) S' = .ok ys S3 ∧ xs = x0 ++ ys, ⟨_, rfl, Nat.zero_le _, g1.sh Dd, S2, [], [], xs, Mk.start rs1 hD, run, rfl⟩, ?_⟩
  rintro i m H2 ⟨rfl, hi, gs, S', acc, x0, ys, mk, lr, rfl⟩
  obtain ⟨w1, w2⟩ := wk gs H2 mk.gr
  by_cases hlt : i < ps.length
  · refine .inr ?_
    have ep : ps[i]? = some ps[i] := List.getElem?_eq_getElem hlt
    obtain ⟨go, yl⟩ := w1 i _ ep
    refine ⟨go, fun H3 => ∃ gs S' acc x0' ys', Mk k g1 H1 Dd gs H3 S' acc x0' ∧ lcP s (wipeL L vs) tg cond el (ps.drop (i + 1)) S' = .ok ys' S3 ∧ x0 ++ ys = x0' ++ ys',
      fun H3 q => ⟨ps.length - (i + 1), by omega, rfl, hlt, q⟩, fun x H3 y => ?_⟩
    obtain ⟨ext3, rs3, rp⟩ := yl x H3 S' mk.rs y
    have mk3 := mk.step ext3 rs3
    rw [List.drop_eq_getElem_cons hlt] at lr
    unfold lcP at lr
    cases ea : asg tg (.p ps[i]) (wipeL L vs) with
    | none => rw [ea] at lr; cases lr
    | some L1 =>
      rw [ea] at lr
      dsimp only at lr
      refine ⟨gs, wipeL L vs, .p ps[i], L1, rl1.gr mk3.gr, rp, ea, fun σ1 rl2 out => ⟨wipe_out out hsl, ?_⟩⟩
      -- behind the test
      have fin : ∀ (g4 : Gs) (H4 : Hp) (S4 : Sto) (bb : Bool), Mk k g1 H1 Dd g4 H4 S4 acc x0 → RL k g4 H4 σ1 L1 →
          (if bb = true then ((s.e el L1 S4).bind fun d S2 => match d with
            | .p x => (lcP s (wipeL L vs) tg cond el (ps.drop (i + 1)) S2).bind fun xs S3 => .ok (x :: xs) S3
            | .ref _ => .bad : R (List P))
          else lcP s (wipeL L vs) tg cond el (ps.drop (i + 1)) S4) = .ok ys S3 →
          (if bb = true then rdE k WN (s.e el) σ1 H4 fun y H5 => ∃ acc, H5 Dd = some (.lst acc) ∧ acc.length < sizeLine ∧ ∃ gs S' acc' x0' ys', Mk k g1 H1 Dd gs (upd H5 Dd (.lst (acc ++ [y]))) S' acc' x0' ∧ lcP s (wipeL L vs) tg cond el (ps.drop (i + 1)) S' = .ok ys' S3 ∧ x0 ++ ys = x0' ++ ys'
          else ∃ gs S' acc x0' ys', Mk k g1 H1 Dd gs H4 S' acc x0' ∧ lcP s (wipeL L vs) tg cond el (ps.drop (i + 1)) S' = .ok ys' S3 ∧ x0 ++ ys = x0' ++ ys') := by
        intro g4 H4 S4 bb mk4 rl4 run4
        cases bb with
        | false =>
          rw [if_neg Bool.false_ne_true] at run4 ⊢
          exact ⟨g4, S4, acc, x0, ys, mk4, run4, rfl⟩
        | true =>
          rw [if_pos rfl] at run4 ⊢
          obtain ⟨d, S5, r5, run5⟩ := R.bind_ok run4
          cases d with
          | ref n => cases run5
          | p z =>
            obtain ⟨zs, S6, r6, run6⟩ := R.bind_ok run5
            cases run6
            refine ⟨g4, L1, S4, rl4, mk4.rs, ?_⟩
            rw [r5]
            intro g5 H5 e5 rs5 v rv
            have mk5 := mk4.step e5 rs5
            refine ⟨acc, mk5.at_, ?_, g5, S5, acc ++ [v], x0 ++ [z], zs, mk5.app rv, r6, by rw [List.append_assoc]; rfl⟩
            have hl := mk5.ac.length
            have hl2 : (x0 ++ z :: zs).length < line := by
              by_cases hx : (x0 ++ z :: zs).length < line
              · exact hx
              · rw [if_neg hx] at b2; exact b2.elim
            rw [List.length_append] at hl2
            rw [← line_eq, hl]
            have : (z :: zs).length = zs.length + 1 := rfl
            omega
      cases cond with
      | none =>
        subst htt
        exact fin gs H3 S' true mk3 rl2 lr
      | some c =>
        subst htt
        obtain ⟨bb, S4, r4, run4⟩ := R.bind_ok lr
        refine ⟨gs, L1, S', rl2, rs3, ?_⟩
        dsimp only at r4
        rw [r4]
        intro g4 H4 e4 rs4
        exact fin g4 H4 S4 bb (mk3.step e4 rs4) (rl2.mono e4) run4
  · have e : i = ps.length := by omega
    subst e
    refine .inl ⟨w2 _ (Nat.le_refl _), ?_⟩
    rw [List.drop_length] at lr
    unfold lcP at lr
    cases lr
    rw [List.append_nil] at b2
    split at b2
    · split at b2
      · obtain ⟨q1, q2, q3⟩ := mk.own rs1
        exact b2 _ _ q1 q2 _ q3
      · obtain ⟨q1, q2⟩ := mk.frz rs1
        exact b2 _ _ mk.ext q1 _ q2
    · exact b2.elim
end
end Mn
/-! Mn11: statements. -/
namespace Mn
open L2 PyProof.Rows PySem.Spec PySem
def Bf (k : Ka) (W : WX) (g : Gs) (H : Hp) : Fl → Ends → Prop
  | .nx L S, Dn => ∀ g' H' σ', Ext g H g' H' → RS k g' H' S → RL k g' H' σ' L → Dn.nx σ' H'
  | .rt d S, Dn => ∀ g' H' v, Ext g H g' H' → RS k g' H' S → RD k g' H' v d → Dn.rt v H'
  | .bk L S, Dn => ∀ g' H' σ', Ext g H g' H' → RS k g' H' S → RL k g' H' σ' L → Dn.bk σ' H'
  | .ct L S, Dn => ∀ g' H' σ', Ext g H g' H' → RS k g' H' S → RL k g' H' σ' L → Dn.ct σ' H'
  | .ex x L S, _ => ∀ g' H' σ' cls dd, Ext g H g' H' → RS k g' H' S → RL k g' H' σ' L → RX k g' H' x cls dd → W cls dd σ' H'
  | .bad, _ => False
def rdS (k : Ka) (W : WX) (f : Loc → Sto → Fl) : TS := fun Dn σ H => ∃ g L S, RL k g H σ L ∧ RS k g H S ∧ Bf k W g H (f L S) Dn
section
variable {X : Cx} {k : Ka} {W : WX} {cal : Nat → List D → Sto → R D} {s : Ev} {rs : Nat → List P → Option Ex} {g g1 : Gs} {H H1 : Hp} {Dn : Ends} {σ : Ls}
theorem Bf.mono {r : Fl} (h : Bf k W g H r Dn) (x : Ext g H g1 H1) : Bf k W g1 H1 r Dn := by
  cases r with
  | nx L S => exact fun g' H' σ' y => h g' H' σ' (x.trans y)
  | rt L S => exact fun g' H' σ' y => h g' H' σ' (x.trans y)
  | bk L S => exact fun g' H' σ' y => h g' H' σ' (x.trans y)
  | ct L S => exact fun g' H' σ' y => h g' H' σ' (x.trans y)
  | ex z L S => exact fun g' H' σ' cls dd y => h g' H' σ' cls dd (x.trans y)
  | bad => exact h
theorem Bf.fl {α : Type} {L : Loc} {r : R α} {f : α → Sto → Fl} (rl : RL k g H σ L) (h : Bf k W g H (R.fl L r f) Dn) : Bk k W σ g H r fun a S g' H' => Bf k W g' H' (f a S) Dn := by
  cases r with
  | ok a S => exact fun g' H' y _ => Bf.mono (show Bf k W g H (f a S) Dn from h) y
  | ex x S => exact fun g' H' cls dd y rs' rx => h g' H' σ cls dd y rs' (rl.mono y) rx
  | bad => exact h
theorem Bf.then {r : Fl} {f : Loc → Sto → Fl} (h : Bf k W g H (r.then f) Dn) : Bf k W g H r { Dn with nx := rdS k W f Dn } := by
  cases r with
  | nx L S => exact fun g' H' σ' y rs' rl => ⟨g', L, S, rl, rs', Bf.mono (show Bf k W g H (f L S) Dn from h) y⟩
  | rt L S => exact h
  | bk L S => exact h
  | ct L S => exact h
  | ex z L S => exact h
  | bad => exact h
theorem Bf.now {L : Loc} {S : Sto} (h : Bf k W g H (.nx L S) Dn) (rs' : RS k g H S) (rl : RL k g H σ L) : Dn.nx σ H := h g H σ .refl rs' rl

/-! ### one after the other -/
theorem ss_nil : PSs X [] (rdS k W (evCs s rs [])) := PSs.imp pss_nil fun Dn σ H h => by
  obtain ⟨g, L, S, rl, rs', b⟩ := h
  exact b.now rs' rl
theorem ss_cons {st : Stmt} {sts : List Stmt} {c : C} {cs : List C} (h1 : PS X st (rdS k W (evC s rs c))) (h2 : PSs X sts (rdS k W (evCs s rs cs))) : PSs X (st :: sts) (rdS k W (evCs s rs (c :: cs))) :=
  PSs.imp (pss_cons h1 h2) fun Dn σ H h => by
    obtain ⟨g, L, S, rl, rs', b⟩ := h
    exact ⟨g, L, S, rl, rs', b.then⟩
theorem ss_bad {st : Stmt} : PS X st (rdS k W (evC s rs .bad)) := PS.imp ps_never fun Dn σ H h => by
  obtain ⟨g, L, S, rl, rs', b⟩ := h
  exact b
theorem ss_pass {pos : Pos} : PS X (.Pass pos) (rdS k W (evC s rs .pass)) := PS.imp ps_pass fun Dn σ H h => by
  obtain ⟨g, L, S, rl, rs', b⟩ := h
  exact b.now rs' rl
theorem ss_brk {pos : Pos} : PS X (.Break pos) (rdS k W (evC s rs .brk)) := PS.imp ps_break fun Dn σ H h => by
  obtain ⟨g, L, S, rl, rs', b⟩ := h
  exact b g H σ .refl rs' rl
theorem ss_cont {pos : Pos} : PS X (.Continue pos) (rdS k W (evC s rs .cont)) := PS.imp ps_continue fun Dn σ H h => by
  obtain ⟨g, L, S, rl, rs', b⟩ := h
  exact b g H σ .refl rs' rl
theorem ss_doc {x : Str} {j : Nat} {pos pos' : Pos} : PS X (.Expr (.Constant (.str x) j pos) pos') (rdS k W (evC s rs .pass)) := PS.imp ps_doc fun Dn σ H h => by
  obtain ⟨g, L, S, rl, rs', b⟩ := h
  exact b.now rs' rl
theorem ss_retN {pos : Pos} : PS X (.Return none pos) (rdS k W (evC s rs .retN)) := PS.imp ps_retN fun Dn σ H h => by
  obtain ⟨g, L, S, rl, rs', b⟩ := h
  exact b g H _ .refl rs' .non
theorem ss_ret {e : Expr} {e' : E} {pos : Pos} (he : PE X e (rdE k W (s.e e'))) : PS X (.Return (some e) pos) (rdS k W (evC s rs (.ret e'))) := PS.imp (ps_ret he) fun Dn σ H h => by
  obtain ⟨g, L, S, rl, rs', b⟩ := h
  exact ⟨g, L, S, rl, rs', (Bf.fl rl b).imp fun d S1 g1 H1 e1 rs1 b1 v rv => b1 g1 H1 v .refl rs1 rv⟩
def isComp : Expr → Bool
  | .ListComp .. => true
  | .SetComp .. => true
  | .DictComp .. => true
  | _ => false
theorem sw_no {e : Expr} (h : isComp e = false) (t : Option Expr) (l : Nat) (env : Env) : swapsWith e t l env = pure false := by
  cases e <;> first | rfl | cases h
theorem ss_expr {e : Expr} {e' : E} {pos : Pos} (hs : isComp e = false) (he : PE X e (rdE k W (s.e e'))) : PS X (.Expr e pos) (rdS k W (evC s rs (.expr e'))) := PS.imp (ps_expr he (sw_no hs _ _ _)) fun Dn σ H h => by
  obtain ⟨g, L, S, rl, rs', b⟩ := h
  refine ⟨g, L, S, rl, rs', (Bf.fl rl b).imp fun d S1 g1 H1 e1 rs1 b1 v rv => ?_⟩
  exact Bf.now b1 rs1 (rl.mono e1)
theorem set_in {i : Nat} {e' : E} (h : rdS k W (evC s rs (.set i e')) Dn σ H) : rdE k W (s.e e') σ H fun x H1 => Dn.nx (σ.set i (some x)) H1 := by
  obtain ⟨g, L, S, rl, rs', b⟩ := h
  refine ⟨g, L, S, rl, rs', (Bf.fl rl b).imp fun d S1 g1 H1 e1 rs1 b1 v rv => ?_⟩
  split at b1
  · exact Bf.now b1 rs1 ((rl.mono e1).set rv)
  · exact b1.elim
theorem ss_set {i : Nat} {x : Str} {e : Expr} {e' : E} {p pos : Pos} (hN : X.N.Nodup) (hi : X.N[i]? = some x) (hx : L2.Loc X.env.scope x) (hf : X.fn x = true ∨ X.env.scope.names.lookup x = some .local) (hs : swapsWith e (some (.Name x p)) pos.line X.env = pure false)
    (he : PE X e (rdE k W (s.e e'))) : PS X (.Assign [.Name x p] e pos) (rdS k W (evC s rs (.set i e'))) :=
  PS.imp (ps_set hN hi hx he hs hf) fun _ _ _ h => set_in h
theorem ss_unp {tg : Tg} {tgE e : Expr} {e' : E} {pos : Pos} (hs : swapsWithSole [tgE] e pos.line X.env = pure false) (hw : swappedStores [tgE] e X.env = pure none) (h1 : (assignEach [tgE] X.env).map (·.2) = [assign tgE X.env])
    (he : PE X e (rdE k W (s.e e'))) (hg : PG X tgE (rdG k tg)) : PS X (.Assign [tgE] e pos) (rdS k W (evC s rs (.unp tg e'))) :=
  PS.imp (ps_asg he hg hs hw h1) fun Dn σ H h => by
    obtain ⟨g, L, S, rl, rs', b⟩ := h
    refine ⟨g, L, S, rl, rs', (Bf.fl rl b).imp fun d S1 g1 H1 e1 rs1 b1 v rv => ?_⟩
    split at b1
    · rename_i L1 ea
      exact ⟨g1, L, d, L1, rl.mono e1, rv, ea, fun σ1 rl1 _ => Bf.now b1 rs1 rl1⟩
    · exact b1.elim
theorem ss_par {i j : Nat} {x y : Str} {a b : Expr} {es : List E} {px py pt pos : Pos} {kt k2 pt2} (hc : X.calm = true) (hN : X.N.Nodup) (hi : X.N[i]? = some x) (hj : X.N[j]? = some y) (hij : i ≠ j)
    (hx : X.env.scope.names.lookup x = some .local) (hy : X.env.scope.names.lookup y = some .local) (ha : PA X [a, b] (rdA k W (evs s es)))
    (hw : swappedStores [.Tuple [.Name x px, .Name y py] kt pt] (.Tuple [a, b] k2 pt2) X.env = pure (some [x, y])) :
    PS X (.Assign [.Tuple [.Name x px, .Name y py] kt pt] (.Tuple [a, b] k2 pt2) pos) (rdS k W (evC s rs (.setT [i, j] es))) :=
  PS.imp (ps_par hc hN hi hj hij hx hy ha hw rfl) fun Dn σ H h => by
    obtain ⟨g, L, S, rl, rs', b⟩ := h
    refine ⟨g, L, S, rl, rs', (Bf.fl rl b).imp fun ds S1 g1 H1 e1 rs1 b1 vs rv => ?_⟩
    have rl1 := rl.mono e1
    match ds, rv, b1 with
    | [], _, b1 => exact b1.elim
    | [d1], _, b1 =>
      unfold setN at b1
      by_cases h1 : i < L.length
      · rw [if_pos h1] at b1; exact b1.elim
      · rw [if_neg h1] at b1; exact b1.elim
    | [d1, d2], .cons r1 (.cons r2 .nil), b1 =>
      unfold setN at b1
      by_cases h1 : i < L.length
      · rw [if_pos h1] at b1
        unfold setN at b1
        by_cases h2 : j < (setL L i d1).length
        · rw [if_pos h2] at b1
          exact ⟨_, _, rfl, Bf.now b1 rs1 ((rl1.set r1).set r2)⟩
        · rw [if_neg h2] at b1; exact b1.elim
      · rw [if_neg h1] at b1; exact b1.elim
    | d1 :: d2 :: d3 :: ds, _, b1 =>
      unfold setN at b1
      by_cases h1 : i < L.length
      · rw [if_pos h1] at b1
        unfold setN at b1
        by_cases h2 : j < (setL L i d1).length
        · rw [if_pos h2] at b1; exact b1.elim
        · rw [if_neg h2] at b1; exact b1.elim
      · rw [if_neg h1] at b1; exact b1.elim
theorem setN_nx {is : List Nat} {ds : List D} {L : Loc} {S : Sto} (b : Bf k W g H (match setN is ds L with | some L1 => .nx L1 S | none => .bad) Dn) : ∃ L1, setN is ds L = some L1 ∧ Bf k W g H (.nx L1 S) Dn := by
  split at b
  · exact ⟨_, by assumption, b⟩
  · exact b.elim
theorem setN_cons {i : Nat} {is : List Nat} {ds : List D} {L L1 : Loc} (h : setN (i :: is) ds L = some L1) : ∃ d r, ds = d :: r ∧ i < L.length ∧ setN is r (setL L i d) = some L1 := by
  cases ds with
  | nil => simp [setN] at h
  | cons d r =>
    unfold setN at h
    split at h
    · exact ⟨d, r, rfl, by assumption, h⟩
    · cases h
theorem setN_nil {ds : List D} {L L1 : Loc} (h : setN [] ds L = some L1) : ds = [] ∧ L1 = L := by
  cases ds with
  | nil =>
    unfold setN at h
    cases h
    exact ⟨rfl, rfl⟩
  | cons d r => simp [setN] at h
theorem ss_par3 {i j l : Nat} {x y z : Str} {a b c : Expr} {es : List E} {px py pz pt pos : Pos} {kt k2 pt2} (hc : X.calm = true) (hN : X.N.Nodup) (hi : X.N[i]? = some x) (hj : X.N[j]? = some y) (hl : X.N[l]? = some z) (hij : i ≠ j) (hil : i ≠ l) (hjl : j ≠ l)
    (hx : X.env.scope.names.lookup x = some .local) (hy : X.env.scope.names.lookup y = some .local) (hz : X.env.scope.names.lookup z = some .local) (ha : PA X [a, b, c] (rdA k W (evs s es)))
    (hw : swappedStores [.Tuple [.Name x px, .Name y py, .Name z pz] kt pt] (.Tuple [a, b, c] k2 pt2) X.env = pure (some [x, y, z])) :
    PS X (.Assign [.Tuple [.Name x px, .Name y py, .Name z pz] kt pt] (.Tuple [a, b, c] k2 pt2) pos) (rdS k W (evC s rs (.setT [i, j, l] es))) :=
  PS.imp (ps_par3 hc hN hi hj hl hij hil hjl hx hy hz ha hw rfl) fun Dn σ H h => by
    obtain ⟨g, L, S, rl, rs', b⟩ := h
    refine ⟨g, L, S, rl, rs', (Bf.fl rl b).imp fun ds S1 g1 H1 e1 rs1 b1 vs rv => ?_⟩
    have rl1 := rl.mono e1
    obtain ⟨L1, e, b2⟩ := setN_nx b1
    obtain ⟨d1, r1, rfl, _, e⟩ := setN_cons e
    obtain ⟨d2, r2, rfl, _, e⟩ := setN_cons e
    obtain ⟨d3, r3, rfl, _, e⟩ := setN_cons e
    obtain ⟨rfl, rfl⟩ := setN_nil e
    match rv with
    | .cons q1 (.cons q2 (.cons q3 .nil)) => exact ⟨_, _, _, rfl, Bf.now b2 rs1 (((rl1.set q1).set q2).set q3)⟩
/-! ### lists that change -/
theorem ss_setIx {o i e : Expr} {o' i' e' : E} {p pos : Pos} (hsl : noSlice i = true) (hs : swapsWithSole [.Subscript o i p] e pos.line X.env = pure false) (he : PE X e (rdE k W (s.e e'))) (ho : PE X o (rdE k W (s.e o'))) (hi : PE X i (rdE k W (s.e i'))) :
    PS X (.Assign [.Subscript o i p] e pos) (rdS k W (evC s rs (.setIx o' i' e'))) := by
  have pg := pg_sub (pos := p) ho hi set_list (by
    intro v
    cases i <;> first | rfl | cases hsl)
  refine PS.imp (ps_asg he pg hs (by cases e <;> rfl) rfl) fun Dn σ H h => ?_
  obtain ⟨g, L, S, rl, rs', b⟩ := h
  refine ⟨g, L, S, rl, rs', (Bf.fl rl b).imp fun d S1 g1 H1 e1 rs1 b1 v rv => ?_⟩
  have rl1 := rl.mono e1
  refine ⟨g1, L, S1, rl1, rs1, (Bf.fl rl1 b1).imp fun x S2 g2 H2 e2 rs2 b2 vx rx => ?_⟩
  have rl2 := rl1.mono e2
  refine ⟨g2, L, S2, rl2, rs2, (Bf.fl rl2 b2).imp fun y S3 g3 H3 e3 rs3 b3 vy ry => ?_⟩
  have rl3 := rl2.mono e3
  split at b3
  · rename_i n j
    split at b3
    · rename_i ds hds
      split at b3
      · rename_i q hq
        obtain ⟨a, rfl, ha⟩ := rx.mono e3
        cases (show RP k g3 H3 vy (.int j) from ry)
        obtain ⟨ws, h1, h2⟩ := rs3.cell n a ds ha hds
        have rv3 := rv.mono (e2.trans e3)
        refine ⟨a, ws, j, q, rfl, rfl, h1, by rw [h2.length]; exact hq, ?_⟩
        exact b3 g3 _ σ (Ext.cellSet (List.mem_of_getElem? ha) _) (rs3.cellSet ha (h2.set q rv3)) (rl3.mono (Ext.cellSet (List.mem_of_getElem? ha) _))
      · exact b3.elim
    · exact b3.elim
  · exact b3.elim
theorem few_of {e : Expr} (h : noStar e = true) (pos : Pos) (env : Env) : ((backTo pos (starEach [e] env)).all (fun x => !x.1) && (backToKw pos (keywordEach [] env)).all (fun x => x.1.isSome)
      && decide ([e].length + ([] : List Keyword).length + (if ([] : List Keyword).isEmpty then 0 else 1) < 30)) = true := by
  rw [star_of h]
  rfl
def noCall : Expr → Bool
  | .Call .. => false
  | _ => true
theorem base_of {o : Expr} (h : noCall o = true) (x : Str) (env : Env) (wh : Sem Value) : attributeBase o x env wh = wh := by
  cases o <;> first | rfl | cases h
theorem ss_app {o e : Expr} {o' e' : E} {ap cp pos : Pos} (hK : X.K = k.K) (hnc : noCall o = true) (hst : noStar e = true) (hln : (ap.endLine == cp.line) = true) (ho : PE X o (rdE k W (s.e o'))) (he : PE X e (rdE k W (s.e e'))) :
    PS X (.Expr (.Call (.Attribute o "append" ap) [e] [] cp) pos) (rdS k W (evC s rs (.app o' e'))) := by
  have pa := pa_cons he pa_nil (star_of hst [] X.env)
  refine PS.imp (ps_expr (pe_bm F.plainAttrs_list F.slot_list_append F.type_list_append mt_append ho pa (base_of hnc _ _ _) (few_of hst _ _) hln (star_of hst _ _) rfl) rfl) fun Dn σ H h => ?_
  obtain ⟨g, L, S, rl, rs', b⟩ := h
  refine ⟨g, L, S, rl, rs', (Bf.fl rl b).imp fun x S1 g1 H1 e1 rs1 b1 vx rx => ?_⟩
  have rl1 := rl.mono e1
  split at b1
  · rename_i n
    split at b1
    · rename_i m hm
      obtain ⟨ds0⟩ := m
      obtain ⟨a, rfl, ha⟩ := rx
      obtain ⟨ws0, h0, _⟩ := rs1.cell n a ds0 ha hm
      refine ⟨.inl ⟨rfl, ws0, .inl (.inl h0)⟩, ?_⟩
      refine ⟨g1, L, S1, rl1, rs1, (Bf.fl rl1 b1).imp fun d S2 g2 H2 e2 rs2 b2 vd rd => ?_⟩
      have rl2 := rl1.mono e2
      split at b2
      · rename_i ds hds
        split at b2
        · rename_i hl
          have ha2 := e2.ref ha
          obtain ⟨ws, h1, h2⟩ := rs2.cell n a ds ha2 hds
          refine ⟨a, ws, vd, rfl, rfl, h1, by rw [h2.length, ← line_eq]; exact hl, ?_⟩
          have x2 := Ext.cellSet (H := H2) (List.mem_of_getElem? ha2) (.lst (ws ++ [vd]))
          exact b2 g2 _ σ x2 (rs2.cellSet ha2 (h2.append (.cons rd .nil))) (rl2.mono x2)
        · exact b2.elim
      · exact b2.elim
    · exact b1.elim
  · exact b1.elim

/-! ### if, for, while -/
theorem ss_ite {c : Expr} {c' : E} {a b : List Stmt} {a' b' : List C} {pos : Pos} (hc : PT X c (rdT k W (s.t c'))) (ha : PSs X a (rdS k W (s.c a'))) (hb : PSs X b (rdS k W (s.c b'))) : PS X (.If c a b pos) (rdS k W (evC s rs (.ite c' a' b'))) :=
  PS.imp (ps_if hc ha hb) fun Dn σ H h => by
    obtain ⟨g, L, S, rl, rs', bk⟩ := h
    refine ⟨g, L, S, rl, rs', (Bf.fl rl bk).imp fun x S1 g1 H1 e1 rs1 b1 => ?_⟩
    cases x with
    | true => exact iteT ⟨g1, L, S1, rl.mono e1, rs1, b1⟩
    | false => exact iteF ⟨g1, L, S1, rl.mono e1, rs1, b1⟩
theorem ss_for {tgE iter : Expr} {tg : Tg} {kk : Sk} {es : List E} {b : List Stmt} {b' : List C} {pos : Pos} (hp : PassesOwn (model X.prog X.w) X.A X.env X.xe) (hc : X.calm = true) (hi : PI X tgE iter (rdI k W (walkE s kk es))) (hg : PG X tgE (rdG k tg))
    (hb : PSs X b (rdS k W (s.c b'))) (hs : ∀ x, foldedSetIterable iter X.env x = pure x) : PS X (.For tgE iter b [] pos) (rdS k W (evC s rs (.fo tg kk es b'))) :=
  PS.imp (ps_for hp hc hi hg hb hs) fun Dn σ H h => by
    obtain ⟨g, L, S, rl, rs', bk⟩ := h
    refine ⟨g, L, S, rl, rs', (Bf.fl rl bk).imp fun ps S1 g1 H1 e1 rs1 b1 J wk => ?_⟩
    have rl1 := rl.mono e1
    refine ⟨fun i m σ2 H2 => m = ps.length - i ∧ i ≤ ps.length ∧ ∃ g2 L2 S2, Ext g1 H1 g2 H2 ∧ RL k g2 H2 σ2 L2 ∧ RS k g2 H2 S2 ∧ Bf k W g2 H2 (foP s tg b' (ps.drop i) L2 S2) Dn,
      ⟨_, rfl, Nat.zero_le _, g1, L, S1, .refl, rl1, rs1, b1⟩, ?_⟩
    rintro i m σ2 H2 ⟨rfl, hi, g2, L2, S2, x2, rl2, rs2, b2⟩
    obtain ⟨w1, w2⟩ := wk g2 H2 x2.gr
    by_cases hlt : i < ps.length
    · refine .inr ?_
      obtain ⟨go, yl⟩ := w1 i _ (List.getElem?_eq_getElem hlt)
      refine ⟨go, fun σ3 H3 => ∃ g3 L3 S3, Ext g1 H1 g3 H3 ∧ RL k g3 H3 σ3 L3 ∧ RS k g3 H3 S3 ∧ Bf k W g3 H3 (foP s tg b' (ps.drop (i + 1)) L3 S3) Dn,
        fun σ3 H3 q => ⟨ps.length - (i + 1), by omega, rfl, hlt, q⟩, fun v H3 y => ?_⟩
      obtain ⟨e3, rs3, rp⟩ := yl v H3 S2 rs2 y
      rw [List.drop_eq_getElem_cons hlt] at b2
      unfold foP at b2
      cases ea : asg tg (.p ps[i]) L2 with
      | none => rw [ea] at b2; exact b2.elim
      | some L3 =>
        rw [ea] at b2
        dsimp only at b2
        have b3 := b2.mono e3
        refine ⟨g2, L2, .p ps[i], L3, rl2.mono e3, rp, ea, fun σ3 rl3 _ => ⟨g2, L3, S2, rl3, rs3, ?_⟩⟩
        cases q : s.c b' L3 S2 with
        | nx L4 S4 =>
          rw [q] at b3
          exact fun g4 H4 σ4 e4 rs4 rl4 => ⟨g4, L4, S4, x2.trans (e3.trans e4), rl4, rs4, b3.mono e4⟩
        | ct L4 S4 =>
          rw [q] at b3
          exact fun g4 H4 σ4 e4 rs4 rl4 => ⟨g4, L4, S4, x2.trans (e3.trans e4), rl4, rs4, b3.mono e4⟩
        | bk L4 S4 =>
          rw [q] at b3
          exact fun g4 H4 σ4 e4 rs4 rl4 => b3 g4 H4 σ4 e4 rs4 rl4
        | rt d S4 => rw [q] at b3; exact b3
        | ex z L4 S4 => rw [q] at b3; exact b3
        | bad => rw [q] at b3; exact b3
    · have e : i = ps.length := by omega
      subst e
      rw [List.drop_length] at b2
      unfold foP at b2
      exact .inl ⟨w2 _ (Nat.le_refl _), b2.now rs2 rl2⟩
end
section
variable {X : Cx} {k : Ka} {W : WX} {G : Prog} {cal : Nat → List D → Sto → R D}
/-- at some level -/
def exT (k : Ka) (W : WX) (G : Prog) (cal : Nat → List D → Sto → R D) (e : E) : TT := fun σ H Q => ∃ n, rdT k W ((ev G cal n).t e) σ H Q
def exS (k : Ka) (W : WX) (G : Prog) (cal : Nat → List D → Sto → R D) (b : List C) : TS := fun Dn σ H => ∃ n, rdS k W ((ev G cal n).c b) Dn σ H
theorem ss_wh {c : Expr} {c' : E} {b : List Stmt} {b' : List C} {pos : Pos} (hp : PassesOwn (model X.prog X.w) X.A X.env X.xe) (hc : ∀ n, PT X c (rdT k W ((ev G cal n).t c'))) (hb : ∀ n, PSs X b (rdS k W ((ev G cal n).c b'))) (n : Nat) :
    PS X (.While c b [] pos) (rdS k W (evC (ev G cal n) G.rs (.wh c' b'))) := by
  have pc : PT X c (exT k W G cal c') := ⟨fun pins s σ H Q I q => let ⟨n, q⟩ := q; (hc n).run pins s σ H Q I q⟩
  have pb : PSs X b (exS k W G cal b') := ⟨fun pins s σ H Dn I q => let ⟨n, q⟩ := q; (hb n).run pins s σ H Dn I q⟩
  refine PS.imp (ps_while hp pc pb) fun Dn σ H h => ?_
  refine ⟨fun m σ H => ∃ g L S, RL k g H σ L ∧ RS k g H S ∧ Bf k W g H (evC (ev G cal m) G.rs (.wh c' b') L S) Dn, ⟨n, h⟩, ?_⟩
  rintro m σ1 H1 ⟨g1, L1, S1, rl1, rs1, b1⟩
  refine ⟨m, g1, L1, S1, rl1, rs1, (Bf.fl rl1 b1).imp fun t S2 g2 H2 e2 rs2 b2 => ?_⟩
  have rl2 := rl1.mono e2
  cases t with
  | false => exact iteF (b2.now rs2 rl2)
  | true =>
    refine iteT ?_
    have b2 : Bf k W g2 H2 (match (ev G cal m).c b' L1 S2 with
      | .nx L2 S2 => (ev G cal m).c [.wh c' b'] L2 S2
      | .ct L2 S2 => (ev G cal m).c [.wh c' b'] L2 S2
      | .bk L2 S2 => .nx L2 S2
      | r => r) Dn := b2
    refine ⟨fun σ' H' => ∃ m', m' < m ∧ ∃ g L S, RL k g H' σ' L ∧ RS k g H' S ∧ Bf k W g H' (evC (ev G cal m') G.rs (.wh c' b') L S) Dn, fun σ' H' q => q, m, g2, L1, S2, rl2, rs2, ?_⟩
    have again : ∀ {g H L S}, Bf k W g H ((ev G cal m).c [.wh c' b'] L S) Dn → ∃ m', m' < m ∧ Bf k W g H (evC (ev G cal m') G.rs (.wh c' b') L S) Dn := by
      intro g H L S q
      cases m with
      | zero => exact q.elim
      | succ m =>
        refine ⟨m, Nat.lt_succ_self _, ?_⟩
        have q : Bf k W g H ((evC (ev G cal m) G.rs (.wh c' b') L S).then fun L1 S1 => .nx L1 S1) Dn := q
        cases z : evC (ev G cal m) G.rs (.wh c' b') L S with
        | nx _ _ => rw [z] at q; exact q
        | ct _ _ => rw [z] at q; exact q
        | bk _ _ => rw [z] at q; exact q
        | rt _ _ => rw [z] at q; exact q
        | ex _ _ _ => rw [z] at q; exact q
        | bad => rw [z] at q; exact q
    cases q : (ev G cal m).c b' L1 S2 with
    | nx L3 S3 =>
      rw [q] at b2
      exact fun g' H' σ' e3 rs3 rl3 => let ⟨m', h1, h2⟩ := again (b2.mono e3); ⟨m', h1, g', L3, S3, rl3, rs3, h2⟩
    | ct L3 S3 =>
      rw [q] at b2
      exact fun g' H' σ' e3 rs3 rl3 => let ⟨m', h1, h2⟩ := again (b2.mono e3); ⟨m', h1, g', L3, S3, rl3, rs3, h2⟩
    | bk L3 S3 =>
      rw [q] at b2
      exact fun g' H' σ' e3 rs3 rl3 => b2 g' H' σ' e3 rs3 rl3
    | rt d S3 => rw [q] at b2; exact b2
    | ex z L3 S3 => rw [q] at b2; exact b2
    | bad => rw [q] at b2; exact b2
end
end Mn
/-! Mn12: defs and their calls. -/
namespace Mn
open L2 PyProof.Rows PySem.Spec PySem
/-- a def's promise, where no repr is under way -/
structure GOk (P : Program) (w : World) (K : PySem.W.Frag) (mg : Str → Option Value) (base : Heap) (j : Nat) (f : Addr) (fd : FuncData) (ps : List Str) (sp : Sp) : Prop where
  len : ∀ vs H Q E, sp vs H Q E → vs.length = ps.length
  go : ∀ (A : Around) (outer : List Env) (s : Shared) (H : Hp) (args : Args) (us : List Value) (vs : List V) (Q : VK) (E : XK), Room j A → A.guards = some [] → Env0 P w K mg base A outer s H → BindsTo s fd args (ps.zip us) →
    Vals vs us → sp vs H Q E → codeAny (model P w) A (.call (.ref f) args) (CR (L2.CX P w) outer P w H s Q E) s
section
variable {P : Program} {w : World} {K : PySem.W.Frag} {mg : Str → Option Value} {base : Heap}
/-- by the body -/
theorem gok_of {j : Nat} {f : Addr} {name qual : Str} {params : Arguments} {body : List Stmt} {scope : Scope} {dV kV doc pm cdv ct oc : Value} {an od : Option Addr} {osl : Array (Option Value)} {N ps : List Str} {sp : Sp}
    (lk : K.lookup f = some ⟨oc, od, .func (PySem.W.fnOf name qual params body scope dV kV doc pm an cdv ct), osl⟩) (hcd : PySem.W.codeIn K cdv qual = true) (Sc : FnScope N ps scope) (len : ∀ vs H Q E, sp vs H Q E → vs.length = ps.length)
    (hb : ∀ (A : Around) (outer : List Env) (s : Shared) (H : Hp) (vs : List V) (Q : VK) (E : XK), Room j (A.deeper (envOfC qual scope s.heap.objs.size f cdv)) → A.guards = some [] → sp vs H Q E →
      ∃ t, PSs (cxOf (L2.CX P w) P w K mg base N qual scope f cdv A outer s H E) body t ∧ t { nx := fun _ H' => Q .non H', rt := Q } (start N vs) H) :
    GOk P w K mg base (j + 1) f (PySem.W.fnOf name qual params body scope dV kV doc pm an cdv ct) ps sp := by
  constructor
  · exact len
  intro A outer s H args us vs Q E room gu e0 bnd rel pre
  have hlen : vs.length = ps.length := len vs H Q E pre
  have inn : K.In s.heap := PySem.W.Frag.In.keeps e0.mod.kin fun b o e => (e0.bs b o e).left
  have nolim : s.heap.NoLimit := Heap.NoLimit.keeps e0.mod.nolimit fun b o e => (e0.bs b o e).left
  have kinds : ∀ y ∈ ps.zip us, scope.names.lookup y.1 = some .local ∨ (scope.names.lookup y.1 = some .cell ∧ ((cellsFrom (s.heap.objs.size + 1) scope.names []).lookup y.1).isSome = true) := by
    rintro ⟨n, v⟩ hy
    cases Sc.par n (List.of_mem_zip hy).left with
    | inl q => exact .inl q
    | inr q => exact .inr ⟨q, PySem.W.cellsFrom_some _ _ _ (.inl q)⟩
  refine codeAny_call_function room.depth (inn f _ lk) rfl Sc.co Sc.gen rfl (PySem.W.codeRec_of inn hcd) (bnd _ _ _ _ (wpAny_newFunctionEnv_cells Sc.kind kinds ?_))
  rintro env rfl s1 x
  refine ⟨nolim.keeps x.toInCall.keep, codeAny_func ?_⟩
  obtain ⟨t, body_ok, start_ok⟩ := hb A outer s H vs Q E (room.deeper _) gu pre
  have inv : Inv (cxOf (L2.CX P w) P w K mg base N qual scope f cdv A outer s H E) [] (start N vs) H s1 := inv_start Sc room.hd e0 hlen rel x
  have back : ∀ {σ' : Ls} {H' : Hp} {v : V} {u : Value} {s' : Shared}, Inv (cxOf (L2.CX P w) P w K mg base N qual scope f cdv A outer s H E) [] σ' H' s' → RelV v u → Q v H' → CE outer P w H s Q u s' := by
    intro σ' H' v u s' J rv q
    exact ⟨v, H', J.os, J.bare, J.base, J.hok, rv, q⟩
  refine wpAny_mono (body_ok.run [] s1 (start N vs) H _ inv start_ok) ?_ fun e s' hs => hs
  intro fl s' hs
  match fl, hs with
  | .ret u, ⟨v, σ', H', J, rv, q⟩ => exact back J rv q
  | .next, ⟨σ', H', J, q⟩ => exact back (v := V.non) (u := Value.none) J rfl q
  | .brk, ⟨_, _, _, q⟩ => exact q.elim
  | .cont, ⟨_, _, _, q⟩ => exact q.elim
theorem GOk.mono {i j : Nat} {f : Addr} {fd : FuncData} {ps : List Str} {sp : Sp} (F : GOk P w K mg base i f fd ps sp) (h : i ≤ j) : GOk P w K mg base j f fd ps sp :=
  ⟨F.len, fun A outer s H args us vs Q E hr => F.go A outer s H args us vs Q E (hr.mono h)⟩
end
section
variable {X : Cx} {j : Nat} {f : Addr} {fd : FuncData} {ps : List Str} {sp : Sp} {E : Ls → XK} {x : Str} {p pos : Pos} {e : Expr} {es : List Expr} {t : L2.TA} {dvs : List V} {ds : List Value}
theorem run_g {pins : List (Addr × Obj)} {σ : Ls} {H : Hp} {s : Shared} {Q : VK} {us : List Value} {vs : List V} (F : GOk X.prog X.w X.K X.mg X.base j f fd ps sp) (hr : Room j X.A) (hg : X.A.guards = some []) (hb : Binds X.K fd ps ds) (hd : Vals dvs ds)
    (hx : PassesAt (L2.CX X.prog X.w) X σ (E σ)) (I : Inv X pins σ H s) (r : Vals vs us) (h : sp (vs ++ dvs) H Q (E σ)) : wpAny (model X.prog X.w) X.A (call (.ref f) us) (EP X pins σ Q) X.xe s := by
  have rr := r.append hd
  have len2 : (us ++ ds).length = ps.length := rr.length.symm.trans (F.len _ _ _ _ h)
  refine wpAny_call (codeAny_mono (F.go X.A X.stack s H ⟨us, []⟩ (us ++ ds) (vs ++ dvs) Q (E σ) hr hg I.env0 (hb s us I.kIn len2) rr h) ?_)
  intro r s' q
  match r, q with
  | .error e, q => exact hx pins H s e s' I q
  | .ok (.ret u), q => exact I.after q
  | .ok .next, q => exact q.elim
  | .ok .brk, q => exact q.elim
  | .ok .cont, q => exact q.elim
def tGc (sp : Sp) (dvs : List V) (E : Ls → XK) (t : L2.TA) : TE := fun σ H Q => t σ H fun vs H1 => sp (vs ++ dvs) H1 Q (E σ)
theorem pe_g (F : GOk X.prog X.w X.K X.mg X.base j f fd ps sp) (hr : Room j X.A) (hgu : X.A.guards = some []) (hg : Gl X x) (hm : X.mg x = some (.ref f)) (hk : PySem.W.keepIn X.K (.ref f) = true) (hb : Binds X.K fd ps ds) (hd : Vals dvs ds)
    (hx : ∀ σ, PassesAt (L2.CX X.prog X.w) X σ (E σ)) (ha : PA X (e :: es) t) (hdb : (x == ("__debug__" : Str)) = false) (he : starEach (e :: es) X.env = (false, eval e X.env) :: starEach es X.env) (hpl : (backTo pos (starEach es X.env)).any (·.1) = false) :
    PE X (.Call (.Name x p) (e :: es) [] pos) (tGc sp dvs E t) :=
  ⟨fun pins s σ H Q I h => wpAny_Call_Name_kw (ld_glob I hg hm (PySem.W.callWith_K (h₀ := X.base) I.ok.mod.kin hk (thn (ha.run pos pins s σ H _ I h) fun us s1 ⟨vs, H1, I1, r, q⟩ => ⟨I1.kIn, run_g F hr hgu hb hd (hx σ) I1 r q⟩) he hpl) hdb)⟩
theorem pe_g0 (F : GOk X.prog X.w X.K X.mg X.base j f fd ps sp) (hr : Room j X.A) (hgu : X.A.guards = some []) (hg : Gl X x) (hm : X.mg x = some (.ref f)) (hk : PySem.W.keepIn X.K (.ref f) = true) (hb : Binds X.K fd ps ds) (hd : Vals dvs ds)
    (hx : ∀ σ, PassesAt (L2.CX X.prog X.w) X σ (E σ)) (hdb : (x == ("__debug__" : Str)) = false) : PE X (.Call (.Name x p) [] [] pos) (tGc sp dvs E tNil) :=
  ⟨fun pins s σ H Q I h => wpAny_Call_Name_kw (ld_glob I hg hm (PySem.W.callWith_K0 I.kIn hk (run_g (us := []) F hr hgu hb hd (hx σ) I .nil h)) hdb)⟩
end

/-! ### the promise by the evaluator -/
def spD (k : Ka) (np : Nat) (run : List D → Sto → R D) : Sp := fun vs H Q E => vs.length = np ∧ ∃ g ds S, RS k g H S ∧ RDs k g H vs ds ∧ Bk k (fun c d _ H => E c d H) [] g H (run ds S) fun d _ g' H' => ∀ v, RD k g' H' v d → Q v H'
section
variable {X : Cx} {k : Ka} {W : WX} {cal : Nat → List D → Sto → R D} {g g1 : Gs} {H H1 : Hp} {S : Sto} {σ : Ls}
theorem Gs.alone_rs (rs : RS k g H S) : RS k ⟨g.M, []⟩ H [] where
  len := rfl
  nd := List.nodup_nil
  fl := fun a z => z.elim (rs.fl a) fun z => by
    obtain ⟨_, _, _, _, _, e, _⟩ := rs.live z
    exact ⟨_, e⟩
  dj := fun a z => by cases z
  cell := fun n a ds e _ => by cases n <;> cases e
theorem RF.gp {F : List (Str × V)} {fs : List (Str × P)} (x : Gp g H g1 H1) (h : RF k g H F fs) : RF k g1 H1 F fs := by
  induction h with
  | nil => exact .nil
  | cons r _ ih => exact .cons (r.gp x) ih
theorem allP_map : ∀ {ds : List D} {ps : List P}, allP ds = some ps → ds = ps.map .p
  | [], ps, e => by
    have : ps = [] := by simpa [allP] using e.symm
    subst this; rfl
  | .p z :: ds, ps, e => by
    unfold allP at e
    obtain ⟨qs, h1, h2⟩ := Option.map_eq_some_iff.mp e
    rw [← h2, allP_map h1]; rfl
  | .ref _ :: ds, ps, e => by simp [allP] at e
/-- a def is called: alone or with the store -/
theorem call_in {f : Nat} {ds : List D} {vs : List V} {Q : VK} {W : WX} (rs : RS k g H S) (rv : RDs k g H vs ds) (b : Bk k W σ g H (callD cal f ds S) fun d _ g' H' => ∀ v, RD k g' H' v d → Q v H') :
    spD k vs.length (cal f) vs H Q (WE W σ) := by
  refine ⟨rfl, ?_⟩
  unfold callD at b
  -- with the store as it stands
  have shared : Bk k W σ g H (cal f ds S) (fun d _ g' H' => ∀ v, RD k g' H' v d → Q v H') → ∃ g0 ds S, RS k g0 H S ∧ RDs k g0 H vs ds ∧ Bk k (fun c d _ H => WE W σ c d H) [] g0 H (cal f ds S) fun d _ g' H' => ∀ v, RD k g' H' v d → Q v H' := by
    intro b
    refine ⟨g, ds, S, rs, rv, ?_⟩
    cases q : cal f ds S with
    | ok d S' => rw [q] at b; exact b
    | ex z S' => rw [q] at b; exact b
    | bad => rw [q] at b; exact b
  cases ea : allP ds with
  | none =>
    rw [ea] at b
    exact shared b
  | some ps =>
    rw [ea] at b
    have rp := rv.ofP ea
    have y : Gp g H ⟨g.M, []⟩ H := ⟨fun _ _ h _ => h, fun a o _ n z => n (z.elim id fun q => nomatch q)⟩
    have e1 : ds = ps.map .p := allP_map ea
    have tog : ∀ {g' : Gs} {H' : Hp}, Ext ⟨g.M, []⟩ H g' H' → Ext g H g H' := fun {g' H'} x => ⟨rfl, ⟨[], by simp, fun _ z => nomatch z⟩, fun a o h _ => x.keep a o h (fun z => nomatch z), x.live⟩
    have rsg : ∀ {g' : Gs} {H' : Hp}, Ext ⟨g.M, []⟩ H g' H' → RS k g H' S := fun {g' H'} x => rs.grown (tog x) fun a ha => by
      obtain ⟨_, _, _, _, _, e, _⟩ := rs.live ha
      rw [e]; exact x.keep a _ e (fun z => nomatch z)
    have bk : ∀ {g' : Gs} {H' : Hp}, Ext ⟨g.M, []⟩ H g' H' → Gp g' H' g H' := fun {g' H'} x => ⟨fun _ _ h _ => h, fun a o _ n z => n (.inl (by rw [x.F]; exact z))⟩
    have alone : ∀ {r : R D}, cal f ds [] = r → Bk k (fun c d _ H => WE W σ c d H) [] ⟨g.M, []⟩ H r (fun d _ g' H' => ∀ v, RD k g' H' v d → Q v H') → ∃ g0 ds S, RS k g0 H S ∧ RDs k g0 H vs ds ∧ Bk k (fun c d _ H => WE W σ c d H) [] g0 H (cal f ds S) fun d _ g' H' => ∀ v, RD k g' H' v d → Q v H' := by
      intro r e z
      exact ⟨⟨g.M, []⟩, ds, [], Gs.alone_rs rs, by rw [e1]; exact (rp.gp y).toD, by rw [e]; exact z⟩
    cases q : cal f ds [] with
    | ok d S' =>
      rw [q] at b
      cases d with
      | ref n => exact shared b
      | p z =>
        refine alone q ?_
        intro g' H' x rs' v r
        exact b g H' (tog x) (rsg x) v (RP.gp (bk x) r)
    | ex z S' =>
      rw [q] at b
      refine alone q ?_
      intro g' H' cls dd x rs' rx
      obtain ⟨C, h1, h2, h3⟩ := rx
      exact b g H' cls dd (tog x) (rsg x) ⟨C, h1, h2, h3.imp id fun ⟨a, vs, q1, q2, q3, q4⟩ => ⟨a, vs, q1, q2, fun z => q3 (.inl (by rw [x.F]; exact z)), q4.gp (bk x)⟩⟩
    | bad => rw [q] at b; exact b.elim
variable {j : Nat} {f : Addr} {fd : FuncData} {ps : List Str} {x : Str} {p pos : Pos} {e : Expr} {es : List Expr} {dvs : List V} {dps : List P} {uds : List Value} {G : Prog} {i : Nat}
theorem evs_app (s : Ev) : ∀ (a b : List E) (L : Loc) (S : Sto), evs s (a ++ b) L S = (evs s a L S).bind fun ds S1 => (evs s b L S1).bind fun ds' S2 => .ok (ds ++ ds') S2
  | [], b, L, S => by
    show evs s b L S = (evs s b L S).bind fun ds' S2 => .ok ([] ++ ds') S2
    cases evs s b L S <;> rfl
  | x :: a, b, L, S => by
    show ((s.e x L S).bind fun d S1 => (evs s (a ++ b) L S1).bind fun ds S2 => .ok (d :: ds) S2) = (((s.e x L S).bind fun d S1 => (evs s a L S1).bind fun ds S2 => .ok (d :: ds) S2).bind fun ds S1 => (evs s b L S1).bind fun ds' S2 => .ok (ds ++ ds') S2)
    rw [R.bind_assoc]
    congr 1
    funext d S1
    rw [evs_app s a b L S1, R.bind_assoc, R.bind_assoc]
    congr 1
    funext ds S2
    rw [R.bind_assoc]
    show _ = (evs s b L S2).bind _
    congr 1
theorem evs_k (n : Nat) : ∀ (qs : List P) (L : Loc) (S : Sto), evs (ev G cal n) (qs.map .k) L S = .ok (qs.map .p) S ∨ evs (ev G cal n) (qs.map .k) L S = .bad
  | [], L, S => .inl rfl
  | q :: qs, L, S => by
    cases n with
    | zero => exact .inr rfl
    | succ n =>
      have e : evs (ev G cal (n + 1)) ((q :: qs).map .k) L S = (evs (ev G cal (n + 1)) (qs.map .k) L S).bind fun ds S2 => .ok (.p q :: ds) S2 := rfl
      rw [e]
      rcases evs_k (n + 1) qs L S with h | h
      · rw [h]; exact .inl rfl
      · rw [h]; exact .inr rfl
theorem RDs.ofMap : ∀ {qs : List P} {vs : List V}, RDs k g H vs (qs.map .p) → RPs k g H vs qs
  | [], _, h => by cases h; exact .nil
  | q :: qs, _, h => by
    cases h with
    | cons a b => exact .cons a (RDs.ofMap b)
/-- dvs stand for dps anywhere -/
def KPs (k : Ka) (dvs : List V) (dps : List P) : Prop := ∀ g H, RPs k g H dvs dps
theorem evs_len (s : Ev) : ∀ {es : List E} {L : Loc} {S S' : Sto} {ds : List D}, evs s es L S = .ok ds S' → ds.length = es.length
  | [], L, S, S', ds, h => by
    have h : (R.ok [] S : R (List D)) = .ok ds S' := h
    cases h; rfl
  | e :: es, L, S, S', ds, h => by
    obtain ⟨d, S1, _, h⟩ := R.bind_ok h
    obtain ⟨r, S2, h1, h⟩ := R.bind_ok h
    cases h
    exact congrArg (· + 1) (evs_len s h1)
theorem Bk.impE {α : Type} {W : WX} {σ : Ls} {g : Gs} {H : Hp} {r : R α} {Q Q' : α → Sto → Gs → Hp → Prop} (h : Bk k W σ g H r Q) (i : ∀ a S g' H', r = .ok a S → Ext g H g' H' → RS k g' H' S → Q a S g' H' → Q' a S g' H') : Bk k W σ g H r Q' := by
  cases r with
  | ok a S => exact fun g' H' y rs => i a S g' H' rfl y rs (h g' H' y rs)
  | ex z S => exact h
  | bad => exact h
theorem call_core {n : Nat} {es' : List E} (hd : KPs k dvs dps) {σ : Ls} {H : Hp} {Q : VK}
    (h : rdE k W (evE cal (ev G cal n) (.call i (es' ++ dps.map .k))) σ H Q) : rdA k W (evs (ev G cal n) es') σ H fun vs H1 => spD k (es'.length + dps.length) (cal i) (vs ++ dvs) H1 Q (WE W σ) := by
  obtain ⟨g, L, S, rl, rs, b⟩ := h
  have b : Bk k W σ g H ((evs (ev G cal n) (es' ++ dps.map .k) L S).bind fun ds S1 => callD cal i ds S1) fun d _ g' H' => ∀ v, RD k g' H' v d → Q v H' := b
  rw [evs_app, R.bind_assoc] at b
  refine ⟨g, L, S, rl, rs, b.bind.impE fun ds S1 g1 H1 e0 e1 rs1 b1 vs rv => ?_⟩
  rcases evs_k (G := G) (cal := cal) n dps L S1 with z | z
  · rw [z] at b1
    have b1 : Bk k W σ g1 H1 (callD cal i (ds ++ dps.map .p) S1) fun d _ g' H' => ∀ v, RD k g' H' v d → Q v H' := b1
    have q := call_in rs1 (rv.append ((hd g1 H1).toD)) b1
    have l : (vs ++ dvs).length = es'.length + dps.length := by rw [List.length_append, rv.length, evs_len _ e0, (hd g1 H1).length]
    rw [l] at q
    exact q
  · rw [z] at b1; exact b1.elim
theorem se_call {n np : Nat} {es' : List E} (F : GOk X.prog X.w X.K X.mg X.base j f fd ps (spD k np (cal i))) (hr : Room j X.A) (hgu : X.A.guards = some []) (tk : Takes X W) (hg : Gl X x) (hm : X.mg x = some (.ref f)) (hk : PySem.W.keepIn X.K (.ref f) = true)
    (hb : Binds X.K fd ps uds) (hdv : Vals dvs uds) (hd : KPs k dvs dps) (hdb : (x == ("__debug__" : Str)) = false) (hst : es.all noStar = true) (ha : PA X es (rdA k W (evs (ev G cal n) es'))) (hl : es'.length + dps.length = np) (hnil : es = [] → es' = []) :
    PE X (.Call (.Name x p) es [] pos) (rdE k W (evE cal (ev G cal n) (.call i (es' ++ dps.map .k)))) := by
  have core : ∀ σ H Q, rdE k W (evE cal (ev G cal n) (.call i (es' ++ dps.map .k))) σ H Q → tGc (spD k np (cal i)) dvs (WE W) (rdA k W (evs (ev G cal n) es')) σ H Q := fun σ H Q h => by
    have q := call_core hd h
    rw [hl] at q
    exact q
  cases es with
  | nil =>
    refine PE.imp (pe_g0 F hr hgu hg hm hk hb hdv (fun σ => passAt tk σ) hdb) fun σ H Q h => ?_
    obtain ⟨g, L, S, rl, rs, b⟩ := core σ H Q h
    rw [hnil rfl] at b
    have q := Bk.here (show Bk k W σ g H (.ok [] S) _ from b) rs [] .nil
    exact q
  | cons e es =>
    rw [List.all_cons, Bool.and_eq_true] at hst
    exact PE.imp (pe_g F hr hgu hg hm hk hb hdv (fun σ => passAt tk σ) ha hdb (star_of hst.1 es X.env) (noStars hst.2 X.env pos)) core
end
end Mn
/-! Mn13: from the text to the intermediate form: expressions. -/
namespace Mn
open L2 PyProof.Rows PySem.Spec PySem
/-- what the names of a def stand for -/
structure Cf where
  N : List Str
  own : Pos → Bool
  con : Str → Option P
  fn : Str → Option (Nat × Nat × List P)
  free : Str → Bool
def ixOf (x : Str) : List Str → Option Nat
  | [] => none
  | y :: r => if y == x then some 0 else (ixOf x r).map (· + 1)
theorem ixOf_ok {x : Str} : ∀ {N : List Str} {i : Nat}, ixOf x N = some i → N[i]? = some x
  | [], _, h => by simp [ixOf] at h
  | y :: r, i, h => by
    unfold ixOf at h
    split at h
    · rename_i e
      cases h
      simpa using e
    · obtain ⟨j, h1, rfl⟩ := Option.map_eq_some_iff.mp h
      simpa using ixOf_ok h1
def okN (x : Str) : Bool := !(x == ("__debug__" : Str)) && !(x == ("__classdict__" : Str))
def isVis (sc : Scope) (x : Str) : Bool := match sc.names.lookup x with
  | some .local => true
  | some .cell => true
  | some .free => true
  | _ => false
def isGl (sc : Scope) (x : Str) : Bool := match sc.names.lookup x with
  | some .globalImplicit => true
  | _ => false
def isLoc (sc : Scope) (x : Str) : Bool := match sc.names.lookup x with
  | some .local => true
  | _ => false
def isTg (sc : Scope) (fb : Str → Bool) (x : Str) : Bool := match sc.names.lookup x with
  | some .local => true
  | some .cell => fb x
  | _ => false
def tyOf (x : Str) : Option Ty := [Ty.int, .bool, .str, .tuple, .list, .dict].find? fun T => (nmT T : Str) == x
theorem tyOf_ok {x : Str} {T : Ty} (h : tyOf x = some T) : x = (nmT T : Str) := by
  have := List.find?_some h
  exact (eq_of_beq this).symm
def biOf (x : Str) : Option Bi := [Bi.len, .abs, .int, .str, .repr, .all, .any, .tuple, .list, .sorted, .max, .min, .sum].find? fun b => nmB b == x
theorem biOf_ok {x : Str} {b : Bi} (h : biOf x = some b) : x = nmB b := by
  have := List.find?_some h
  exact (eq_of_beq this).symm
/-- may stand as a test -/
def tst1 (f : Expr → Bool) : Expr → Bool
  | .UnaryOp .Not a _ => f a
  | .BoolOp _ vs _ => vs.all f
  | .IfExp .. => false
  | _ => true
def tst : Nat → Expr → Bool
  | 0, _ => false
  | m + 1, e => tst1 (tst m) e
def trL (f : Expr → Option E) : List Expr → Option (List E)
  | [] => some []
  | e :: es => match f e, trL f es with
    | some a, some b => some (a :: b)
    | _, _ => none
def trO (f : Expr → Option E) : Option Expr → Option (Option E)
  | none => some none
  | some e => (f e).map some
def op1 (f : E → E) (a : Option E) : Option E := a.map f
def op2 (f : E → E → E) (a b : Option E) : Option E := match a, b with
  | some a, some b => some (f a b)
  | _, _ => none
def op3 (f : E → E → E → E) (a b c : Option E) : Option E := match a, b, c with
  | some a, some b, some c => some (f a b c)
  | _, _, _ => none
def trName (c : Cf) (sc : Scope) (x : Str) : Option E := if okN x then
    (if isVis sc x then (ixOf x c.N).map .v else if isGl sc x then (c.con x).map .k else none)
  else none
def trConst : Const → Option E
  | .none => some (.k .non)
  | .bool b => some (.k (.bl b))
  | .int i => some (.k (.int i))
  | .str x => some (.k (.str x))
  | _ => none
def trIsi (c : Cf) (sc : Scope) (f : Expr → Option E) : List Expr → Option E
  | [e, .Name t _] => if noStar e && isGl sc t && c.free t then (match tyOf t with
      | some T => (f e).map (.isi T)
      | none => none) else none
  | _ => none
def trBi (f : Expr → Option E) (x : Str) (args : List Expr) : Option E := match biOf x, args with
  | some b, e :: es => if (e :: es).all noStar then (trL f (e :: es)).map (.bi b) else none
  | _, _ => none
def isiN : Str := "isinstance"
def trFn (f : Expr → Option E) (i np : Nat) (dps : List P) (args : List Expr) : Option E :=
  if args.all noStar && Nat.ble args.length np && Nat.ble (np - args.length) dps.length then (trL f args).map fun es => .call i (es ++ (dps.drop (dps.length - (np - args.length))).map .k) else none
def trCall (c : Cf) (sc : Scope) (f : Expr → Option E) (x : Str) (args : List Expr) : Option E :=
  if okN x && isGl sc x then (match c.fn x with
    | some (i, np, dps) => trFn f i np dps args
    | none => if c.free x then (if x == isiN then trIsi c sc f args else trBi f x args) else none) else none
def isRev : Expr → Bool
  | .Slice none none (some (.UnaryOp .USub (.Constant (.int 1) _ _) _)) _ => true
  | _ => false
def trSub (f : Expr → Option E) (a : Expr) (i : Expr) : Option E := match i with
  | .Slice lo hi none _ => (match f a, trO f lo, trO f hi with
    | some a, some lo, some hi => some (.sl a lo hi)
    | _, _, _ => none)
  | .Slice none none (some (.UnaryOp .USub (.Constant (.int 1) _ _) _)) _ => (f a).map .rev
  | .Slice .. => none
  | i => op2 .ix (f a) (f i)
mutual
def trG (c : Cf) (sc : Scope) (fb : Str → Bool) : Nat → Expr → Option Tg
  | _, .Name x _ => if isTg sc fb x then (ixOf x c.N).map .n else none
  | m + 1, .Tuple es _ _ => if es.all noStar then (trGs c sc fb m es).map .t else none
  | _, _ => none
def trGs (c : Cf) (sc : Scope) (fb : Str → Bool) : Nat → List Expr → Option (List Tg)
  | _, [] => some []
  | m, e :: es => match trG c sc fb m e, trGs c sc fb m es with
    | some a, some b => some (a :: b)
    | _, _ => none
end
def noSet : Expr → Bool
  | .Set .. => false
  | _ => true
def isTup : Expr → Bool
  | .Tuple .. => true
  | _ => false
def rangeN : Str := "range"
def enumN : Str := "enumerate"
def zipN : Str := "zip"
/-- a call of one of the walkers -/
def trW (c : Cf) (sc : Scope) (tg : Expr) : Expr → Option (Sk × List Expr)
  | .Call (.Name x _) [a] [] _ => if noStar a && isGl sc x && c.free x then (if x == rangeN then some (.rng1, [a]) else if x == enumN && isTup tg then some (.enum, [a]) else none) else none
  | .Call (.Name x _) [a, b] [] _ => if noStar a && noStar b && isGl sc x && c.free x then (if x == rangeN then some (.rng2, [a, b]) else if x == zipN && isTup tg then some (.zip, [a, b]) else none) else none
  | _ => none
def trI (c : Cf) (sc : Scope) (f : Expr → Option E) (tg it : Expr) : Option (Sk × List E) := match trW c sc tg it with
  | some (s, es) => (trL f es).map fun es' => (s, es')
  | none => if noSet it then (f it).map fun e => (.it, [e]) else none
def ownN (N : List Str) : List (Str × NameKind) → List (Str × Nat)
  | [] => []
  | (x, .local) :: r => (match ixOf x N with
    | some i => (x, i) :: ownN N r
    | none => ownN N r)
  | (x, .cell) :: r => (match ixOf x N with
    | some i => (x, i) :: ownN N r
    | none => ownN N r)
  | _ :: r => ownN N r
def trE (c : Cf) : Nat → Scope → Expr → Option E
  | 0, _, _ => none
  | m + 1, sc, e => match e with
    | .Name x _ => trName c sc x
    | .Constant v _ _ => trConst v
    | .BinOp a op b _ => (match opB op with
      | some o => op2 (.bin o) (trE c m sc a) (trE c m sc b)
      | none => none)
    | .UnaryOp .USub a _ => op1 .neg (trE c m sc a)
    | .UnaryOp .Not a _ => op1 .not (trE c m sc a)
    | .BoolOp _ [a] _ => trE c m sc a
    | .BoolOp .And (a :: b :: r) p => op2 .and (trE c m sc a) (trE c m sc (.BoolOp .And (b :: r) p))
    | .BoolOp .Or (a :: b :: r) p => op2 .or (trE c m sc a) (trE c m sc (.BoolOp .Or (b :: r) p))
    | .Compare a [o] [b] _ => if behindInMarks o b then none else op2 (.cmp (opC o)) (trE c m sc a) (trE c m sc b)
    | .Compare a [o, o'] [b, d] _ => if behindInMarks o' d then none else op3 (.chain (opC o) (opC o')) (trE c m sc a) (trE c m sc b) (trE c m sc d)
    | .IfExp t a b _ => if tst 40 t then op3 .ite (trE c m sc t) (trE c m sc a) (trE c m sc b) else none
    | .Tuple es _ _ => if es.all noStar then (trL (trE c m sc) es).map .tup else none
    | .List es p => if es.all noStar then (trL (trE c m sc) es).map (.lst (c.own p)) else none
    | .Call (.Name x _) args [] _ => trCall c sc (trE c m sc) x args
    | .Subscript a i _ => trSub (trE c m sc) a i
    | .ListComp el [⟨tg, it, ifs, 0⟩] scope p =>
      let ow := ownN c.N scope.names
      let sc' := relS scope sc
      if blkC c.N sc scope ow then
        (match trG c sc' (fun x => match scope.names.lookup x with | some .cell => true | _ => false) m tg, trI c sc (trE c m sc) tg it, trE c m sc' el with
        | some tg', some (kk, es), some el' => if (slots tg').all fun i => decide (i ∈ ow.map (·.2)) then
            (match ifs with
            | [] => some (.lc (c.own p) (ow.map (·.2)) tg' kk es none el')
            | [t] => if tst 40 t then (trE c m sc' t).map fun t' => .lc (c.own p) (ow.map (·.2)) tg' kk es (some t') el' else none
            | _ => none) else none
        | _, _, _ => none)
      else none
    | _ => none
end Mn
/-! Mn14: the translation of expressions is right. -/
namespace Mn
open L2 PyProof.Rows PySem.Spec PySem
/-- a context in which the text is read -/
structure XC (k : Ka) (cal : Nat → List D → Sto → R D) (c : Cf) (sc : Scope) (fb : Str → Bool) (j : Nat) (W : WX) (X : Cx) : Prop where
  K : X.K = k.K
  N : X.N = c.N
  nd : X.N.Nodup
  sc : X.env.scope = sc
  fb : ∀ x, fb x = true → X.fn x = true
  calm : X.calm = true
  room : Room j X.A
  gu : X.A.guards = some []
  tk : Takes X W
  con : ∀ x p, c.con x = some p → ∃ u v, X.mg x = some u ∧ RelV v u ∧ ∀ g H, RP k g H v p
  fn : ∀ x i np dps, c.fn x = some (i, np, dps) → ∃ f fd ps, X.mg x = some (.ref f) ∧ PySem.W.keepIn X.K (.ref f) = true ∧ GOk X.prog X.w X.K X.mg X.base j f fd ps (spD k np (cal i)) ∧
    ∀ m, m ≤ dps.length → ∃ dvs ds, KPs k dvs (dps.drop m) ∧ Vals dvs ds ∧ Binds X.K fd ps ds
  free : ∀ x, c.free x = true → X.mg x = none
section
variable {k : Ka} {cal : Nat → List D → Sto → R D} {c : Cf} {sc : Scope} {fb : Str → Bool} {j : Nat} {W : WX} {X : Cx} {G : Prog} {f : Expr → Option E}
theorem XC.un (x : XC k cal c sc fb j W X) : X.A.units + 66 < cLine := by
  have := x.room.un
  omega
theorem XC.un1 (x : XC k cal c sc fb j W X) : X.A.units + 65 < cLine := by
  have := x.un
  omega
theorem XC.blk (x : XC k cal c sc fb j W X) (s0 : Shared) (H : Hp) (scope : Scope) (C : Addr) (cl : List (Str × Addr)) (fp : List Addr) :
    XC k cal c (relS scope sc) (fun x => match scope.names.lookup x with | some .cell => true | _ => false) j WN (X.blk s0 H scope (compEnvC scope cl C X.env) fp) where
  K := x.K
  N := x.N
  nd := x.nd
  sc := by
    show relS scope X.env.scope = _
    rw [x.sc]
  fb := fun y h => by
    show (scope.names.lookup y == some .cell) = true
    split at h
    · rename_i e
      rw [e]; rfl
    · cases h
  calm := x.calm
  room := x.room
  gu := x.gu
  tk := takes0
  con := x.con
  fn := x.fn
  free := x.free
theorem okN_of {x : Str} (h : okN x = true) : (x == ("__debug__" : Str)) = false ∧ (x == ("__classdict__" : Str)) = false := by
  unfold okN at h
  simpa [Bool.and_eq_true] using h
theorem isVis_of {x : Str} (h : isVis sc x = true) : Vis sc x := by
  unfold isVis at h
  split at h <;> first | exact .inl (by assumption) | exact .inr (.inl (by assumption)) | exact .inr (.inr (by assumption)) | cases h
theorem isGl_of (x : XC k cal c sc fb j W X) {y : Str} (h : isGl sc y = true) : Gl X y := by
  unfold isGl at h
  split at h
  · show X.env.scope.names.lookup y = _
    rw [x.sc]
    assumption
  · cases h
/-- an expression's reading, at each level -/
def Ok (k : Ka) (W : WX) (G : Prog) (cal : Nat → List D → Sto → R D) (X : Cx) (e : Expr) (e' : E) (m : Nat) : Prop := ∀ n, PE X e (rdE k W ((ev G cal n).e e')) ∧ ((∃ q, tst q e = true) → PT X e (rdT k W ((ev G cal n).t e')) ∧ ((∃ o vs p, e = .BoolOp o vs p) → PW X e (rdT k W ((ev G cal n).t e'))))
theorem bad_pe {e : Expr} {e' : E} : PE X e (rdE k W ((ev G cal 0).e e')) := ⟨fun _ _ _ _ _ _ h => by
  obtain ⟨_, _, _, _, _, b⟩ := h
  exact b.elim⟩
theorem bad_pt {e : Expr} {e' : E} : PT X e (rdT k W ((ev G cal 0).t e')) := ⟨fun _ _ _ _ _ _ h => by
  obtain ⟨_, _, _, _, _, b⟩ := h
  exact b.elim⟩
theorem bad_pw {e : Expr} {e' : E} : PW X e (rdT k W ((ev G cal 0).t e')) := ⟨fun _ _ _ _ _ _ _ h => by
  obtain ⟨_, _, _, _, _, b⟩ := h
  exact b.elim⟩
/-- at the level above -/
theorem Ok.mk {e : Expr} {e' : E} {m : Nat} (h : ∀ n, PE X e (rdE k W (evE cal (ev G cal n) e')) ∧ ((∃ q, tst q e = true) → PT X e (rdT k W (evT cal (ev G cal n) e')) ∧ ((∃ o vs p, e = .BoolOp o vs p) → PW X e (rdT k W (evT cal (ev G cal n) e'))))) : Ok k W G cal X e e' m := fun n => by
  cases n with
  | zero => exact ⟨bad_pe, fun _ => ⟨bad_pt, fun _ => bad_pw⟩⟩
  | succ n => exact h n
/-- a plain expression -/
theorem Ok.plain {e : Expr} {e' : E} {m : Nat} (hK : X.K = k.K) (hp : plainTest e = true) (ht : ∀ s : Ev, evT cal s e' = fun L S => (evE cal s e' L S).bind fun x S1 => truR x S1) (h : ∀ n, PE X e (rdE k W (evE cal (ev G cal n) e'))) : Ok k W G cal X e e' m :=
  Ok.mk fun n => ⟨h n, fun _ => ⟨st_plain hK hp (h n) (ht _), fun ⟨o, vs, p, z⟩ => by rw [z] at hp; cases hp⟩⟩
theorem Ok.e {e : Expr} {e' : E} {m : Nat} (h : Ok k W G cal X e e' m) (n : Nat) : PE X e (rdE k W ((ev G cal n).e e')) := (h n).1
theorem Ok.t {e : Expr} {e' : E} {m : Nat} (h : Ok k W G cal X e e' m) {q : Nat} (ht : tst q e = true) (n : Nat) : PT X e (rdT k W ((ev G cal n).t e')) := ((h n).2 ⟨q, ht⟩).1
theorem trL_len : ∀ {es : List Expr} {es' : List E}, trL f es = some es' → es'.length = es.length
  | [], es', h => by
    cases (show some [] = some es' from h)
    rfl
  | e :: es, es', h => by
    unfold trL at h
    split at h
    · rename_i a b h1 h2
      cases h
      exact congrArg (· + 1) (trL_len h2)
    · cases h
theorem pa_ok {s : Ev} : ∀ {es : List Expr} {es' : List E}, es.all noStar = true → (∀ e e', f e = some e' → PE X e (rdE k W (s.e e'))) → trL f es = some es' → PA X es (rdA k W (evs s es'))
  | [], es', _, _, h => by
    cases (show some [] = some es' from h)
    exact sa_nil
  | e :: es, es', hs, hf, h => by
    rw [List.all_cons, Bool.and_eq_true] at hs
    unfold trL at h
    split at h
    · rename_i a b h1 h2
      cases h
      exact sa_cons hs.1 (hf e a h1) (pa_ok hs.2 hf h2)
    · cases h
theorem op2_some {g : E → E → E} {a b : Option E} {r : E} (h : op2 g a b = some r) : ∃ x y, a = some x ∧ b = some y ∧ r = g x y := by
  unfold op2 at h
  split at h
  · cases h; exact ⟨_, _, rfl, rfl, rfl⟩
  · cases h
theorem op3_some {g : E → E → E → E} {a b d : Option E} {r : E} (h : op3 g a b d = some r) : ∃ x y z, a = some x ∧ b = some y ∧ d = some z ∧ r = g x y z := by
  unfold op3 at h
  split at h
  · cases h; exact ⟨_, _, _, rfl, rfl, rfl, rfl⟩
  · cases h
theorem name_ok (x : XC k cal c sc fb j W X) {y : Str} {pos : Pos} {e' : E} {m : Nat} (h : trName c sc y = some e') : Ok k W G cal X (.Name y pos) e' m := by
  unfold trName at h
  split at h
  · rename_i hN
    obtain ⟨h1, h2⟩ := okN_of hN
    split at h
    · rename_i hv
      obtain ⟨i, h3, rfl⟩ := Option.map_eq_some_iff.mp h
      refine Ok.plain x.K rfl (fun _ => rfl) fun n => se_v (by rw [x.N]; exact ixOf_ok h3) ?_ h1 h2
      rw [x.sc]
      exact isVis_of hv
    · split at h
      · rename_i hg
        obtain ⟨p, h3, rfl⟩ := Option.map_eq_some_iff.mp h
        obtain ⟨u, v, q1, q2, q3⟩ := x.con y p h3
        exact Ok.plain x.K rfl (fun _ => rfl) fun n => se_k (pe_glob (isGl_of x hg) q1 q2 h1) q3
      · cases h
  · cases h
theorem const_ok (x : XC k cal c sc fb j W X) {v : Const} {i : Nat} {pos : Pos} {e' : E} {m : Nat} (h : trConst v = some e') : Ok k W G cal X (.Constant v i pos) e' m := by
  unfold trConst at h
  split at h
  · cases h; exact Ok.plain x.K rfl (fun _ => rfl) fun n => se_k pe_non fun _ _ => .non
  · cases h; exact Ok.plain x.K rfl (fun _ => rfl) fun n => se_k pe_bl fun _ _ => .bl _
  · cases h; exact Ok.plain x.K rfl (fun _ => rfl) fun n => se_k pe_int fun _ _ => .int _
  · cases h; exact Ok.plain x.K rfl (fun _ => rfl) fun n => se_k pe_str fun _ _ => .str _
  · cases h
theorem call_ok (x : XC k cal c sc fb j W X) {y : Str} {args : List Expr} {p pos : Pos} {e' : E} {m : Nat} (hf : ∀ e e', f e = some e' → ∀ n, PE X e (rdE k W ((ev G cal n).e e'))) (h : trCall c sc f y args = some e') : Ok k W G cal X (.Call (.Name y p) args [] pos) e' m := by
  unfold trCall at h
  split at h
  · rename_i h0
    rw [Bool.and_eq_true] at h0
    obtain ⟨hN, hg⟩ := h0
    obtain ⟨h1, _⟩ := okN_of hN
    have gl := isGl_of x hg
    split at h
    · rename_i i np dps hc
      unfold trFn at h
      split at h
      · rename_i h2
        simp only [Bool.and_eq_true] at h2
        obtain ⟨⟨hs, l1⟩, l2⟩ := h2
        have l1 : args.length ≤ np := Nat.le_of_ble_eq_true l1
        have l2 : np - args.length ≤ dps.length := Nat.le_of_ble_eq_true l2
        obtain ⟨es, h3, rfl⟩ := Option.map_eq_some_iff.mp h
        obtain ⟨fa, fd, ps, q1, q2, q3, q4⟩ := x.fn y i np dps hc
        obtain ⟨dvs, ds, q5, q6, q7⟩ := q4 (dps.length - (np - args.length)) (Nat.sub_le _ _)
        refine Ok.plain x.K rfl (fun _ => rfl) fun n => se_call q3 x.room x.gu x.tk gl q1 q2 q7 q6 q5 h1 hs (pa_ok hs (fun e e' z => hf e e' z n) h3) ?_ fun z => ?_
        · rw [List.length_drop, trL_len h3]; omega
        · subst z
          cases (show some [] = some es from h3)
          rfl
      · cases h
    · split at h
      · rename_i hfr
        have mN := x.free y hfr
        split at h
        · rename_i hi
          obtain rfl : y = isiN := eq_of_beq hi
          unfold trIsi at h
          split at h
          · rename_i e t p2
            split at h
            · rename_i h2
              simp only [Bool.and_eq_true] at h2
              obtain ⟨⟨hs, hg2⟩, hf2⟩ := h2
              split at h
              · rename_i T hT
                obtain ⟨e2, h3, rfl⟩ := Option.map_eq_some_iff.mp h
                have gl2 := isGl_of x hg2
                have mN2 := x.free t hf2
                obtain rfl := tyOf_ok hT
                exact Ok.plain x.K rfl (fun _ => rfl) fun n => se_isi x.K gl mN gl2 mN2 hs (hf _ _ h3 n)
              · cases h
            · cases h
          · cases h
        · unfold trBi at h
          split at h
          · rename_i b e es hb
            split at h
            · rename_i hs
              obtain ⟨es', h3, rfl⟩ := Option.map_eq_some_iff.mp h
              obtain rfl := biOf_ok hb
              exact Ok.plain x.K rfl (fun _ => rfl) fun n => se_bi x.K x.calm x.gu x.un gl mN hs (pa_ok hs (fun e e' z => hf e e' z n) h3)
            · cases h
          · cases h
      · cases h
  · cases h
theorem trO_ok {s : Ev} {e : Option Expr} {e' : Option E} (hf : ∀ e e', f e = some e' → PE X e (rdE k W (s.e e'))) (h : trO f e = some e') : PO X e (rdO k W (evOpt s e')) := by
  cases e with
  | none => cases h; exact so_none
  | some e =>
    obtain ⟨y, h1, rfl⟩ := Option.map_eq_some_iff.mp h
    exact so_some (hf e y h1)
theorem sub_ok (x : XC k cal c sc fb j W X) {a i : Expr} {pos : Pos} {e' : E} {m : Nat} (hf : ∀ e e', f e = some e' → ∀ n, PE X e (rdE k W ((ev G cal n).e e'))) (h : trSub f a i = some e') : Ok k W G cal X (.Subscript a i pos) e' m := by
  unfold trSub at h
  split at h
  · split at h
    · rename_i a' lo' hi' h1 h2 h3
      cases h
      exact Ok.plain x.K rfl (fun _ => rfl) fun n => se_sl x.K (hf _ _ h1 n) (trO_ok (fun e e' z => hf e e' z n) h2) (trO_ok (fun e e' z => hf e e' z n) h3)
    · cases h
  · obtain ⟨a', h1, rfl⟩ := Option.map_eq_some_iff.mp h
    exact Ok.plain x.K rfl (fun _ => rfl) fun n => se_rev x.K (hf _ _ h1 n)
  · cases h
  · rename_i n1 n2 n3
    obtain ⟨a', i', h1, h2, rfl⟩ := op2_some h
    refine Ok.plain x.K rfl (fun _ => rfl) fun n => se_ix x.K ?_ (hf _ _ h1 n) (hf _ _ h2 n)
    cases i <;> first | rfl | exact (n3 _ _ _ _ rfl).elim
mutual
theorem trG_ok (x : XC k cal c sc fb j W X) : ∀ {m : Nat} {e : Expr} {t : Tg}, trG c sc fb m e = some t → PG X e (rdG k t)
  | m, .Name y p, t, h => by
    unfold trG at h
    split at h
    · rename_i hv
      obtain ⟨i, h1, rfl⟩ := Option.map_eq_some_iff.mp h
      have hi : X.N[i]? = some y := by rw [x.N]; exact ixOf_ok h1
      unfold isTg at hv
      split at hv
      · rename_i e
        rw [← x.sc] at e
        exact sg_name x.nd hi (.inl e) (.inr e)
      · rename_i e
        rw [← x.sc] at e
        exact sg_name x.nd hi (.inr e) (.inl (x.fb _ hv))
      · cases hv
    · cases h
  | m + 1, .Tuple es kt p, t, h => by
    unfold trG at h
    split at h
    · rename_i hs
      obtain ⟨ts, h1, rfl⟩ := Option.map_eq_some_iff.mp h
      obtain ⟨q1, q2⟩ := trGs_ok x hs h1
      exact sg_tup x.K x.calm q2 hs q1
    · cases h
  | 0, .Tuple es kt p, t, h => by simp [trG] at h
  | _, .BoolOp .., _, h => by simp [trG] at h
  | _, .NamedExpr .., _, h => by simp [trG] at h
  | _, .BinOp .., _, h => by simp [trG] at h
  | _, .UnaryOp .., _, h => by simp [trG] at h
  | _, .Lambda .., _, h => by simp [trG] at h
  | _, .IfExp .., _, h => by simp [trG] at h
  | _, .Dict .., _, h => by simp [trG] at h
  | _, .Set .., _, h => by simp [trG] at h
  | _, .ListComp .., _, h => by simp [trG] at h
  | _, .SetComp .., _, h => by simp [trG] at h
  | _, .DictComp .., _, h => by simp [trG] at h
  | _, .GeneratorExp .., _, h => by simp [trG] at h
  | _, .Await .., _, h => by simp [trG] at h
  | _, .Yield .., _, h => by simp [trG] at h
  | _, .YieldFrom .., _, h => by simp [trG] at h
  | _, .Compare .., _, h => by simp [trG] at h
  | _, .Call .., _, h => by simp [trG] at h
  | _, .FormattedValue .., _, h => by simp [trG] at h
  | _, .JoinedStr .., _, h => by simp [trG] at h
  | _, .Constant .., _, h => by simp [trG] at h
  | _, .Attribute .., _, h => by simp [trG] at h
  | _, .Subscript .., _, h => by simp [trG] at h
  | _, .Starred .., _, h => by simp [trG] at h
  | _, .List .., _, h => by simp [trG] at h
  | _, .Slice .., _, h => by simp [trG] at h
theorem trGs_ok (x : XC k cal c sc fb j W X) : ∀ {m : Nat} {es : List Expr} {ts : List Tg}, es.all noStar = true → trGs c sc fb m es = some ts → PGs X es (rdGs k ts) ∧ es.length = ts.length
  | m, [], ts, _, h => by
    unfold trGs at h
    cases h
    exact ⟨sg_nil, rfl⟩
  | m, e :: es, ts, hs, h => by
    rw [List.all_cons, Bool.and_eq_true] at hs
    unfold trGs at h
    split at h
    · rename_i a b h1 h2
      cases h
      obtain ⟨q1, q2⟩ := trGs_ok x hs.2 h2
      exact ⟨sg_cons (trG_ok x h1) q1 hs.1, congrArg (· + 1) q2⟩
    · cases h
end
theorem fold_of {e : Expr} (h : noSet e = true) (env : Env) (v : Value) : foldedSetIterable e env v = pure v := by
  cases e <;> first | rfl | cases h
theorem trI_ok (x : XC k cal c sc fb j W X) {tg it : Expr} {kk : Sk} {es : List E} (hf : ∀ e e', f e = some e' → ∀ n, PE X e (rdE k W ((ev G cal n).e e'))) (h : trI c sc f tg it = some (kk, es)) :
    (∀ n, PI X tg it (rdI k W (walkE (ev G cal n) kk es))) ∧ ∀ (env : Env) (v : Value), foldedSetIterable it env v = pure v := by
  unfold trI at h
  split at h
  · rename_i s0 es0 hw
    obtain ⟨es', h1, h2⟩ := Option.map_eq_some_iff.mp h
    cases h2
    unfold trW at hw
    split at hw
    · rename_i y p a pos
      split at hw
      · rename_i h0
        simp only [Bool.and_eq_true] at h0
        obtain ⟨⟨hs, hg⟩, hfr⟩ := h0
        have gl := isGl_of x hg
        have mN := x.free y hfr
        have hsA : [a].all noStar = true := by simp [hs]
        refine ⟨fun n => ?_, fun env v => rfl⟩
        split at hw
        · rename_i e
          obtain rfl : y = rangeN := eq_of_beq e
          cases hw
          have pa := pa_ok hsA (fun e e' z => hf e e' z n) h1
          obtain ⟨a', rfl⟩ : ∃ a', es = [a'] := by
            have := trL_len h1
            match es, this with
            | [a'], _ => exact ⟨a', rfl⟩
          exact si_rng1 gl mN hs pa
        · split at hw
          · rename_i e
            rw [Bool.and_eq_true] at e
            obtain rfl : y = enumN := eq_of_beq e.1
            have ht := e.2
            cases hw
            have pa := pa_ok hsA (fun e e' z => hf e e' z n) h1
            obtain ⟨a', rfl⟩ : ∃ a', es = [a'] := by
              have := trL_len h1
              match es, this with
              | [a'], _ => exact ⟨a', rfl⟩
            cases tg <;> first | (cases ht; done) | skip
            exact si_enum x.K gl mN hs pa
          · cases hw
      · cases hw
    · rename_i y p a b pos
      split at hw
      · rename_i h0
        simp only [Bool.and_eq_true] at h0
        obtain ⟨⟨⟨hs, hs2⟩, hg⟩, hfr⟩ := h0
        have gl := isGl_of x hg
        have mN := x.free y hfr
        have hsA : [a, b].all noStar = true := by simp [hs, hs2]
        refine ⟨fun n => ?_, fun env v => rfl⟩
        split at hw
        · rename_i e
          obtain rfl : y = rangeN := eq_of_beq e
          cases hw
          have pa := pa_ok hsA (fun e e' z => hf e e' z n) h1
          obtain ⟨a', b', rfl⟩ : ∃ a' b', es = [a', b'] := by
            have := trL_len h1
            match es, this with
            | [a', b'], _ => exact ⟨a', b', rfl⟩
          exact si_rng2 gl mN hs hs2 pa
        · split at hw
          · rename_i e
            rw [Bool.and_eq_true] at e
            obtain rfl : y = zipN := eq_of_beq e.1
            have ht := e.2
            cases hw
            have pa := pa_ok hsA (fun e e' z => hf e e' z n) h1
            obtain ⟨a', b', rfl⟩ : ∃ a' b', es = [a', b'] := by
              have := trL_len h1
              match es, this with
              | [a', b'], _ => exact ⟨a', b', rfl⟩
            cases tg <;> first | (cases ht; done) | skip
            exact si_zip x.K gl mN hs hs2 pa
          · cases hw
      · cases hw
    · cases hw
  · split at h
    · rename_i hs
      obtain ⟨e', h1, h2⟩ := Option.map_eq_some_iff.mp h
      cases h2
      exact ⟨fun n => si_it x.K (hf it e' h1 n), fun env v => fold_of hs env v⟩
    · cases h
end
end Mn
/-! Mn15: the translation of expressions is right, by induction. -/
namespace Mn
open L2 PyProof.Rows PySem.Spec PySem
section
variable {k : Ka} {cal : Nat → List D → Sto → R D} {c : Cf} {G : Prog} {j : Nat}
theorem evT_ite (s : Ev) (t a b : E) : evT cal s (.ite t a b) = fun L S => (evE cal s (.ite t a b) L S).bind fun x S1 => truR x S1 := rfl
theorem all_in {α : Type} {p : α → Bool} {l : List α} (h : l.all p = true) : ∀ x ∈ l, p x = true := List.all_eq_true.mp h
def ListOk (k : Ka) (cal : Nat → List D → Sto → R D) (c : Cf) (G : Prog) (j m : Nat) : Prop := ∀ (sc : Scope) (fb : Str → Bool) (e : Expr) (e' : E) (W : WX) (X : Cx), XC k cal c sc fb j W X → trE c m sc e = some e' → Ok k W G cal X e e' m
theorem lc_ok {m : Nat} (ih : ListOk k cal c G j m) {sc : Scope} {fb : Str → Bool} {W : WX} {X : Cx} (x : XC k cal c sc fb j W X) {el tg it : Expr} {ifs : List Expr} {scope : Scope} {p : Pos} {e' : E}
    (h : trE c (m + 1) sc (.ListComp el [⟨tg, it, ifs, 0⟩] scope p) = some e') : ∃ own ow tg' kk es cond el', ∃ tt : Nat → TT, e' = .lc own (ow.map (·.2)) tg' kk es cond el' ∧
      ∀ n, PI X tg it (rdI k W (walkE (ev G cal n) kk es)) ∧ BlkOk X.N X.env.scope scope ow ∧ (∀ v, foldedSetIterable it X.env v = pure v) ∧
        (∀ (s0 : Shared) (H : Hp) (C : Addr) (cl : List (Str × Addr)) (fp : List Addr), PG (X.blk s0 H scope (compEnvC scope cl C X.env) fp) tg (rdG k tg')) ∧
        (∀ (s0 : Shared) (H : Hp) (C : Addr) (cl : List (Str × Addr)) (fp : List Addr), PTs (X.blk s0 H scope (compEnvC scope cl C X.env) fp) ifs (tt n)) ∧
        (∀ (s0 : Shared) (H : Hp) (C : Addr) (cl : List (Str × Addr)) (fp : List Addr), PE (X.blk s0 H scope (compEnvC scope cl C X.env) fp) el (rdE k WN ((ev G cal n).e el'))) ∧
        ∀ (σ : Ls) (H : Hp) (Q : VK), rdE k W (evE cal (ev G cal n) e') σ H Q → tLc (rdI k W (walkE (ev G cal n) kk es)) (rdG k tg') (tt n) (rdE k WN ((ev G cal n).e el')) (ow.map (·.2)) σ H Q := by
  simp only [trE] at h
  split at h
  · rename_i hb
    split at h
    · rename_i tg' kk es el' h1 h2 h3
      split at h
      · rename_i hs
        have hsl : ∀ i ∈ slots tg', i ∈ (ownN c.N scope.names).map (·.2) := fun i hi => of_decide_eq_true (all_in hs i hi)
        obtain ⟨i1, i2⟩ := trI_ok (G := G) x (fun e e' z n => (ih _ _ _ _ _ _ x z).e n) h2
        have ok : BlkOk X.N X.env.scope scope (ownN c.N scope.names) := by
          rw [x.N, x.sc]
          exact blkOk_by hb
        have gg : ∀ (s0 : Shared) (H : Hp) (C : Addr) (cl : List (Str × Addr)) (fp : List Addr), PG (X.blk s0 H scope (compEnvC scope cl C X.env) fp) tg (rdG k tg') := fun s0 H C cl fp => trG_ok (x.blk s0 H scope C cl fp) h1
        have ee : ∀ (n : Nat) (s0 : Shared) (H : Hp) (C : Addr) (cl : List (Str × Addr)) (fp : List Addr), PE (X.blk s0 H scope (compEnvC scope cl C X.env) fp) el (rdE k WN ((ev G cal n).e el')) := fun n s0 H C cl fp => (ih _ _ _ _ _ _ (x.blk s0 H scope C cl fp) h3).e n
        split at h
        · cases h
          have tt : ∀ (s0 : Shared) (H : Hp) (C : Addr) (cl : List (Str × Addr)) (fp : List Addr), PTs (X.blk s0 H scope (compEnvC scope cl C X.env) fp) [] tYes := fun s0 H C cl fp => pts_nil
          exact ⟨_, _, tg', kk, es, none, el', fun _ => tYes, rfl, fun n => ⟨i1 n, ok, i2 X.env, gg, tt, ee n, se_lc (pos := p) x.calm x.nd (i1 n) ok hsl (i2 X.env) rfl gg tt (ee n)⟩⟩
        · rename_i t
          split at h
          · rename_i ht
            obtain ⟨t', h4, rfl⟩ := Option.map_eq_some_iff.mp h
            have tt : ∀ (n : Nat) (s0 : Shared) (H : Hp) (C : Addr) (cl : List (Str × Addr)) (fp : List Addr), PTs (X.blk s0 H scope (compEnvC scope cl C X.env) fp) [t] (rdT k WN ((ev G cal n).t t')) := fun n s0 H C cl fp => pts_one ((ih _ _ _ _ _ _ (x.blk s0 H scope C cl fp) h4).t ht n)
            exact ⟨_, _, tg', kk, es, some t', el', fun n => rdT k WN ((ev G cal n).t t'), rfl, fun n => ⟨i1 n, ok, i2 X.env, gg, tt n, ee n, se_lc (pos := p) x.calm x.nd (i1 n) ok hsl (i2 X.env) rfl gg (tt n) (ee n)⟩⟩
          · cases h
        · cases h
      · cases h
    · cases h
  · cases h
theorem trE_ok : ∀ m, ListOk k cal c G j m := by
  intro m
  induction m with
  | zero =>
    intro sc fb e e' W X x h
    simp [trE] at h
  | succ m ih =>
    intro sc fb e e' W X x h
    have sub : ∀ {a a'}, trE c m sc a = some a' → Ok k W G cal X a a' m := fun z => ih _ _ _ _ _ _ x z
    cases e with
    | Name y pos => exact name_ok x (by simpa only [trE] using h)
    | Constant v i pos => exact const_ok x (by simpa only [trE] using h)
    | BinOp a op b pos =>
      simp only [trE] at h
      split at h
      · rename_i o ho
        obtain ⟨a', b', h1, h2, rfl⟩ := op2_some h
        exact Ok.plain x.K rfl (fun _ => rfl) fun n => se_bin x.K ho ((sub h1).e n) ((sub h2).e n)
      · cases h
    | UnaryOp op a pos =>
      cases op with
      | USub =>
        simp only [trE] at h
        obtain ⟨a', h1, rfl⟩ := Option.map_eq_some_iff.mp (show (trE c m sc a).map .neg = some e' from h)
        exact Ok.plain x.K rfl (fun _ => rfl) fun n => se_neg ((sub h1).e n)
      | Not =>
        simp only [trE] at h
        obtain ⟨a', h1, rfl⟩ := Option.map_eq_some_iff.mp (show (trE c m sc a).map .not = some e' from h)
        exact Ok.mk fun n => ⟨se_not x.K ((sub h1).e n), fun ⟨q, ht⟩ => ⟨st_not ((sub h1).t (q := q - 1) (by cases q with | zero => cases ht | succ q => exact ht) n), fun ⟨o, vs, p, z⟩ => by cases z⟩⟩
      | _ => simp [trE] at h
    | BoolOp op vs pos =>
      cases vs with
      | nil => cases op <;> simp [trE] at h
      | cons a r =>
        cases r with
        | nil =>
          have h1 : trE c m sc a = some e' := by simpa only [trE] using h
          intro n
          refine ⟨pe_one ((sub h1).e n), fun ht => ?_⟩
          obtain ⟨q, ht⟩ := ht
          have ht2 : tst (q - 1) a = true := by
            cases q with
            | zero => cases ht
            | succ q =>
              have : ([a] : List Expr).all (tst q) = true := ht
              simpa using this
          cases op with
          | And => exact ⟨(pw_and1 ((sub h1).t ht2 n)).pt, fun _ => pw_and1 ((sub h1).t ht2 n)⟩
          | Or => exact ⟨(pw_or1 ((sub h1).t ht2 n)).pt, fun _ => pw_or1 ((sub h1).t ht2 n)⟩
        | cons b r =>
          have htl : (∃ q, tst q (.BoolOp op (a :: b :: r) pos) = true) → (∃ q, tst q a = true) ∧ ∃ q, tst q (.BoolOp op (b :: r) pos) = true := fun ⟨q, ht⟩ => by
            cases q with
            | zero => cases ht
            | succ q =>
              have h0 : (a :: b :: r).all (tst q) = true := ht
              rw [List.all_cons, Bool.and_eq_true] at h0
              exact ⟨⟨q, h0.1⟩, q + 1, h0.2⟩
          cases op with
          | And =>
            simp only [trE] at h
            obtain ⟨a', b', h1, h2, rfl⟩ := op2_some h
            exact Ok.mk fun n => ⟨se_and x.K ((sub h1).e n) ((sub h2).e n), fun ht => (fun q => ⟨q.pt, fun _ => q⟩) (st_and ((sub h1).t (htl ht).1.choose_spec n) (((sub h2) n).2 (htl ht).2 |>.2 ⟨_, _, _, rfl⟩))⟩
          | Or =>
            simp only [trE] at h
            obtain ⟨a', b', h1, h2, rfl⟩ := op2_some h
            exact Ok.mk fun n => ⟨se_or x.K ((sub h1).e n) ((sub h2).e n), fun ht => (fun q => ⟨q.pt, fun _ => q⟩) (st_or ((sub h1).t (htl ht).1.choose_spec n) (((sub h2) n).2 (htl ht).2 |>.2 ⟨_, _, _, rfl⟩))⟩
    | Compare a ops bs pos =>
      match ops, bs, h with
      | [o], [b], h =>
        simp only [trE] at h
        split at h
        · cases h
        · rename_i hm
          obtain ⟨a', b', h1, h2, rfl⟩ := op2_some h
          exact Ok.mk fun n => ⟨se_cmp x.K x.un1 (by simpa using hm) ((sub h1).e n) ((sub h2).e n), fun _ => ⟨st_cmp x.K x.un1 (by simpa using hm) ((sub h1).e n) ((sub h2).e n), fun ⟨o, vs, p, z⟩ => by cases z⟩⟩
      | [o, o'], [b, d], h =>
        simp only [trE] at h
        split at h
        · cases h
        · rename_i hm
          obtain ⟨a', b', d', h1, h2, h3, rfl⟩ := op3_some h
          exact Ok.mk fun n => ⟨se_chain x.K x.un1 (by simpa using hm) ((sub h1).e n) ((sub h2).e n) ((sub h3).e n), fun _ => ⟨st_chain x.K x.un1 (by simpa using hm) ((sub h1).e n) ((sub h2).e n) ((sub h3).e n), fun ⟨o, vs, p, z⟩ => by cases z⟩⟩
      | [], _, h => simp [trE] at h
      | [_], [], h => simp [trE] at h
      | [_], _ :: _ :: _, h => simp [trE] at h
      | [_, _], [], h => simp [trE] at h
      | [_, _], [_], h => simp [trE] at h
      | [_, _], _ :: _ :: _ :: _, h => simp [trE] at h
      | _ :: _ :: _ :: _, _, h => simp [trE] at h
    | IfExp t a b pos =>
      simp only [trE] at h
      split at h
      · rename_i ht
        obtain ⟨t', a', b', h1, h2, h3, rfl⟩ := op3_some h
        exact Ok.mk fun n => ⟨se_ite ((sub h1).t ht n) ((sub h2).e n) ((sub h3).e n), fun ⟨q, z⟩ => by cases q <;> cases z⟩
      · cases h
    | Tuple es kt pos =>
      simp only [trE] at h
      split at h
      · rename_i hs
        obtain ⟨es', h1, rfl⟩ := Option.map_eq_some_iff.mp h
        exact Ok.plain x.K rfl (fun _ => rfl) fun n => se_tup (pa_ok hs (fun e e' z => (sub z).e n) h1)
      · cases h
    | List es pos =>
      simp only [trE] at h
      split at h
      · rename_i hs
        obtain ⟨es', h1, rfl⟩ := Option.map_eq_some_iff.mp h
        exact Ok.plain x.K rfl (fun _ => rfl) fun n => se_lst (pa_ok hs (fun e e' z => (sub z).e n) h1)
      · cases h
    | Call fe args kws pos =>
      match fe, kws, h with
      | .Name y p, [], h => exact call_ok x (fun e e' z n => (sub z).e n) (by simpa only [trE] using h)
      | .Name _ _, _ :: _, h => simp [trE] at h
      | .BoolOp .., _, h => simp [trE] at h
      | .NamedExpr .., _, h => simp [trE] at h
      | .BinOp .., _, h => simp [trE] at h
      | .UnaryOp .., _, h => simp [trE] at h
      | .Lambda .., _, h => simp [trE] at h
      | .IfExp .., _, h => simp [trE] at h
      | .Dict .., _, h => simp [trE] at h
      | .Set .., _, h => simp [trE] at h
      | .ListComp .., _, h => simp [trE] at h
      | .SetComp .., _, h => simp [trE] at h
      | .DictComp .., _, h => simp [trE] at h
      | .GeneratorExp .., _, h => simp [trE] at h
      | .Await .., _, h => simp [trE] at h
      | .Yield .., _, h => simp [trE] at h
      | .YieldFrom .., _, h => simp [trE] at h
      | .Compare .., _, h => simp [trE] at h
      | .Call .., _, h => simp [trE] at h
      | .FormattedValue .., _, h => simp [trE] at h
      | .JoinedStr .., _, h => simp [trE] at h
      | .Constant .., _, h => simp [trE] at h
      | .Attribute .., _, h => simp [trE] at h
      | .Subscript .., _, h => simp [trE] at h
      | .Starred .., _, h => simp [trE] at h
      | .List .., _, h => simp [trE] at h
      | .Tuple .., _, h => simp [trE] at h
      | .Slice .., _, h => simp [trE] at h
    | Subscript a i pos => exact sub_ok x (fun e e' z n => (sub z).e n) (by simpa only [trE] using h)
    | ListComp el gens scope p =>
      match gens, h with
      | [⟨tg, it, ifs, 0⟩], h =>
        obtain ⟨own, ow, tg', kk, es, cond, el', tt, rfl, q⟩ := lc_ok ih x h
        refine Ok.plain x.K rfl (fun _ => rfl) fun n => ?_
        obtain ⟨q1, q2, q3, q4, q5, q6, q7⟩ := q n
        exact PE.imp (pe_lc x.calm x.nd q1 q2 q4 q5 q6 q3) q7
      | [], h => simp [trE] at h
      | [⟨tg, it, ifs, .ofNat (i + 1)⟩], h => cases (show (none : Option E) = some e' from h)
      | [⟨tg, it, ifs, .negSucc i⟩], h => simp [trE] at h
      | _ :: _ :: _, h => simp [trE] at h
    | _ => simp [trE] at h
end
end Mn
/-! Mn16: statements: their translation. -/
namespace Mn
open L2 PyProof.Rows PySem.Spec PySem
theorem kind_of {env : Env} (hk : env.scope.kind = .function) : env.blockKind = .function := by
  unfold Env.blockKind
  rw [hk]
  rfl
theorem lcsw {elt : Expr} {gs : List Comprehension} {scope : Scope} {pos py : Pos} {y : Str} {l : Nat} {env : Env} : swapsWith (.ListComp elt gs scope pos) (some (.Name y py)) l env =
    pure (env.blockKind == .function && env.kindOf y == some .local && py.line == pos.line && !(scope.names.any fun (n, k) => n == y && (k == .local || k == .cell))) := rfl
def notBoth (vs : List Expr) : Bool := !(vs.all (foldedForSure 8)) && !(vs.all (constantsAlone 8))
theorem sw2_ok {env : Env} {x y : Str} {px py pt pt2 : Pos} {kt k2 : Nat} {a b : Expr} (hk : env.blockKind = .function) (hx : env.kindOf x = some .local) (hy : env.kindOf y = some .local) (hl : (py.line == px.line) = true) (hne : (x == y) = false)
    (ha : noStar a = true) (hb : noStar b = true) (hf : notBoth [a, b] = true) : swappedStores [.Tuple [.Name x px, .Name y py] kt pt] (.Tuple [a, b] k2 pt2) env = pure (some [x, y]) := by
  unfold notBoth at hf
  rw [Bool.and_eq_true, Bool.not_eq_true', Bool.not_eq_true'] at hf
  have hne' : ¬ x = y := by simpa using hne
  have hl' : py.line = px.line := by simpa using hl
  have hyx : (y == x) = false := by simpa using Ne.symm hne'
  unfold swappedStores
  simp only [hf.1, hf.2, hk]
  simp [List.filterMap_cons, hx, hy, hl', List.eraseDups, List.eraseDupsBy, List.eraseDupsBy.loop, hf.1, hf.2, Ne.symm hne', Expr.pos, hyx]
  intro z
  exfalso
  rcases z with z | z
  · cases a <;> first | (cases z; done) | (cases ha; done)
  · cases b <;> first | (cases z; done) | (cases hb; done)
theorem sw3_ok {env : Env} {x y z : Str} {px py pz pt pt2 : Pos} {kt k2 : Nat} {a b d : Expr} (hk : env.blockKind = .function) (hx : env.kindOf x = some .local) (hy : env.kindOf y = some .local) (hz : env.kindOf z = some .local) (hl : (py.line == px.line) = true) (hl2 : (pz.line == px.line) = true)
    (hne : (x == y) = false) (hne2 : (x == z) = false) (hne3 : (y == z) = false)
    (ha : noStar a = true) (hb : noStar b = true) (hd : noStar d = true) (hf : notBoth [a, b, d] = true) : swappedStores [.Tuple [.Name x px, .Name y py, .Name z pz] kt pt] (.Tuple [a, b, d] k2 pt2) env = pure (some [x, y, z]) := by
  unfold notBoth at hf
  rw [Bool.and_eq_true, Bool.not_eq_true', Bool.not_eq_true'] at hf
  have h1 : ¬ x = y := by simpa using hne
  have h2 : ¬ x = z := by simpa using hne2
  have h3 : ¬ y = z := by simpa using hne3
  have hl' : py.line = px.line := by simpa using hl
  have hl2' : pz.line = px.line := by simpa using hl2
  unfold swappedStores
  simp only [hf.1, hf.2, hk]
  have q1 : (y == x) = false := by simpa using Ne.symm h1
  have q2 : (z == x) = false := by simpa using Ne.symm h2
  have q3 : (z == y) = false := by simpa using Ne.symm h3
  simp [List.filterMap_cons, hx, hy, hz, hl', hl2', List.eraseDups, List.eraseDupsBy, List.eraseDupsBy.loop, hf.1, hf.2, Ne.symm h1, Ne.symm h2, Ne.symm h3, Expr.pos, q1, q2, q3]
  intro z
  exfalso
  rcases z with z | z | z
  · cases a <;> first | (cases z; done) | (cases ha; done)
  · cases b <;> first | (cases z; done) | (cases hb; done)
  · cases d <;> first | (cases z; done) | (cases hd; done)
theorem unp_any {ts : List Expr} {kt : Nat} {pt : Pos} {e : Expr} (h : isTup e = false) (env : Env) : swappedStores [.Tuple ts kt pt] e env = pure none := by
  cases e <;> first | rfl | cases h
theorem unp_len {ts vs : List Expr} {kt k2 : Nat} {pt pt2 : Pos} (h : (ts.length == 2 || ts.length == 3) = false) (env : Env) : swappedStores [.Tuple ts kt pt] (.Tuple vs k2 pt2) env = pure none := by
  unfold swappedStores
  simp only [h]
  rfl
theorem sole_tup {ts : List Expr} {kt l : Nat} {pt : Pos} {e : Expr} {env : Env} : swapsWithSole [.Tuple ts kt pt] e l env = pure false := by
  cases e <;> rfl
theorem sole_sub {o i : Expr} {l : Nat} {pt : Pos} {e : Expr} {env : Env} : swapsWithSole [.Subscript o i pt] e l env = pure false := by
  cases e <;> rfl

/-! ### the translation -/
def trSet (c : Cf) (sc : Scope) (fb : Str → Bool) (f : Expr → Option E) (x : Str) (e : Expr) : Option C :=
  if isTg sc fb x then (match ixOf x c.N, f e with
    | some i, some e' => some (.set i e')
    | _, _ => none) else none
def trUnp (c : Cf) (sc : Scope) (fb : Str → Bool) (f : Expr → Option E) (tg e : Expr) : Option C := match trG c sc fb 20 tg, f e with
  | some t, some e' => some (.unp t e')
  | _, _ => none
def trTup (c : Cf) (sc : Scope) (fb : Str → Bool) (f : Expr → Option E) (ts : List Expr) (kt : Nat) (pt : Pos) (e : Expr) : Option C :=
  if isTup e then (match ts, e with
    | [.Name x px, .Name y py], .Tuple [a, b] _ _ => if isLoc sc x && isLoc sc y && (py.line == px.line) && !(x == y) && noStar a && noStar b && notBoth [a, b] then (match ixOf x c.N, ixOf y c.N, trL f [a, b] with
      | some i, some j, some es => if i == j then none else some (.setT [i, j] es)
      | _, _, _ => none) else none
    | [.Name x px, .Name y py, .Name z pz], .Tuple [a, b, d] _ _ => if isLoc sc x && isLoc sc y && isLoc sc z && (py.line == px.line) && (pz.line == px.line) && !(x == y) && !(x == z) && !(y == z) && noStar a && noStar b && noStar d && notBoth [a, b, d] then (match ixOf x c.N, ixOf y c.N, ixOf z c.N, trL f [a, b, d] with
      | some i, some j, some l, some es => if i == j || i == l || j == l then none else some (.setT [i, j, l] es)
      | _, _, _, _ => none) else none
    | ts, .Tuple _ _ _ => if ts.length == 2 || ts.length == 3 then none else trUnp c sc fb f (.Tuple ts kt pt) e
    | _, _ => none)
  else trUnp c sc fb f (.Tuple ts kt pt) e
def trIx (f : Expr → Option E) (o i e : Expr) : Option C := if noSlice i then (match f o, f i, f e with
  | some o, some i, some e => some (.setIx o i e)
  | _, _, _ => none) else none
def trAsg (c : Cf) (sc : Scope) (fb : Str → Bool) (f : Expr → Option E) : List Expr → Expr → Option C
  | [.Name x _], e => trSet c sc fb f x e
  | [.Tuple ts kt pt], e => trTup c sc fb f ts kt pt e
  | [.Subscript o i _], e => trIx f o i e
  | _, _ => none
def trApp (f : Expr → Option E) (o e : Expr) (ap cp : Pos) : Option C := if noCall o && noStar e && (ap.endLine == cp.line) then (match f o, f e with
  | some o, some e => some (.app o e)
  | _, _ => none) else none
def appN : Str := "append"
def trEx (f : Expr → Option E) : Expr → Option C
  | .Constant (.str _) _ _ => some .pass
  | .Call (.Attribute o x ap) [e] [] cp => if x == appN then trApp f o e ap cp else none
  | e => if isComp e then none else (f e).map .expr
def gC : Option C → C
  | some x => x
  | none => .bad
def trS (c : Cf) (sc : Scope) (fb : Str → Bool) (f : Expr → Option E) : Nat → Stmt → C
  | 0, _ => .bad
  | m + 1, st => match st with
    | .Assign ts e _ => gC (trAsg c sc fb f ts e)
    | .Expr e _ => gC (trEx f e)
    | .Return none _ => .retN
    | .Return (some e) _ => gC ((f e).map .ret)
    | .Pass _ => .pass
    | .Break _ => .brk
    | .Continue _ => .cont
    | .If t a b _ => if tst 40 t then (match f t with
      | some t' => .ite t' (a.map (trS c sc fb f m)) (b.map (trS c sc fb f m))
      | none => .bad) else .bad
    | .While t a [] _ => if tst 40 t then (match f t with
      | some t' => .wh t' (a.map (trS c sc fb f m))
      | none => .bad) else .bad
    | .For tg it a [] _ => (match trG c sc fb 20 tg, trI c sc f tg it with
      | some tg', some (kk, es) => .fo tg' kk es (a.map (trS c sc fb f m))
      | _, _ => .bad)
    | _ => .bad
def fuE : Nat := 60
def trB (c : Cf) (sc : Scope) (fb : Str → Bool) (b : List Stmt) : List C := b.map (trS c sc fb (trE c fuE sc) 40)
section
variable {k : Ka} {cal : Nat → List D → Sto → R D} {c : Cf} {sc : Scope} {fb : Str → Bool} {j : Nat} {W : WX} {X : Cx} {G : Prog}
theorem isLoc_of (x : XC k cal c sc fb j W X) {y : Str} (h : isLoc sc y = true) : X.env.scope.names.lookup y = some .local := by
  rw [x.sc]
  unfold isLoc at h
  split at h
  · assumption
  · cases h
theorem isTg_of (x : XC k cal c sc fb j W X) {y : Str} (h : isTg sc fb y = true) : L2.Loc X.env.scope y ∧ (X.fn y = true ∨ X.env.scope.names.lookup y = some .local) := by
  rw [x.sc]
  unfold isTg at h
  split at h
  · exact ⟨.inl (by assumption), .inr (by assumption)⟩
  · exact ⟨.inr (by assumption), .inl (x.fb y h)⟩
  · cases h
def SOk (k : Ka) (W : WX) (G : Prog) (cal : Nat → List D → Sto → R D) (X : Cx) (st : Stmt) (c' : C) : Prop := ∀ n, PS X st (rdS k W (evC (ev G cal n) G.rs c'))
theorem SOk.bad {st : Stmt} : SOk k W G cal X st .bad := fun n => ss_bad
theorem SOk.g {st : Stmt} {o : Option C} (h : ∀ c', o = some c' → SOk k W G cal X st c') : SOk k W G cal X st (gC o) := by
  cases o with
  | none => exact SOk.bad
  | some c' => exact h c' rfl
theorem fun_of (x : XC k cal c sc fb j W X) (hf : sc.kind = .function) : X.env.scope.kind = .function := by
  rw [x.sc]
  exact hf
theorem trSet_ok (x : XC k cal c sc fb j W X) {m : Nat} {y : Str} {p pos : Pos} {e : Expr} {c' : C} (h : trSet c sc fb (trE c m sc) y e = some c') : SOk k W G cal X (.Assign [.Name y p] e pos) c' := by
  unfold trSet at h
  split at h
  · rename_i ht
    obtain ⟨h1, h2⟩ := isTg_of x ht
    split at h
    · rename_i i e' hi he
      cases h
      have hi : X.N[i]? = some y := by rw [x.N]; exact ixOf_ok hi
      intro n
      have pe := (trE_ok (G := G) m sc fb e e' W X x he).e n
      by_cases hc : isComp e = false
      · exact ss_set x.nd hi h1 h2 (sw_no hc _ _ _) pe
      · cases e <;> first | (exact (hc rfl).elim) | skip
        all_goals (cases m with | zero => simp [trE] at he | succ m => ?_)
        · rename_i el gens scope p2
          cases hb : (X.env.blockKind == .function && X.env.kindOf y == some .local && p.line == p2.line && !(scope.names.any fun (n, k) => n == y && (k == .local || k == .cell))) with
          | false => exact ss_set x.nd hi h1 h2 (by rw [lcsw, hb]) pe
          | true =>
            match gens, he, pe with
            | [⟨tg, it, ifs, 0⟩], he, pe =>
              have hyl : X.env.scope.names.lookup y = some .local := by
                simp only [Bool.and_eq_true] at hb
                exact eq_of_beq hb.1.1.2
              cases n with
              | zero =>
                exact ⟨fun pins s σ H Dn I q => by
                  obtain ⟨g, L, S, rl, rs, b⟩ := q
                  exact b.elim⟩
              | succ n =>
                obtain ⟨own, ow, tg', kk, es, cond, el', tt, rfl, q⟩ := lc_ok (trE_ok m) x he
                obtain ⟨q1, q2, q3, q4, q5, q6, q7⟩ := q n
                exact PS.imp (ps_setLc x.calm x.nd hi hyl (by rw [lcsw, hb]) q1 q2 q4 q5 q6 q3) fun Dn σ H r => q7 σ H _ (set_in r)
            | [], he, _ => simp [trE] at he
            | [⟨tg, it, ifs, .ofNat (i + 1)⟩], he, _ => cases (show (none : Option E) = some e' from he)
            | [⟨tg, it, ifs, .negSucc i⟩], he, _ => simp [trE] at he
            | _ :: _ :: _, he, _ => simp [trE] at he
        · simp [trE] at he
        · simp [trE] at he
    · cases h
  · cases h
theorem trUnp_ok (x : XC k cal c sc fb j W X) {m : Nat} {ts : List Expr} {kt : Nat} {pt pos : Pos} {e : Expr} {c' : C} (hw : swappedStores [.Tuple ts kt pt] e X.env = pure none) (h : trUnp c sc fb (trE c m sc) (.Tuple ts kt pt) e = some c') :
    SOk k W G cal X (.Assign [.Tuple ts kt pt] e pos) c' := by
  unfold trUnp at h
  split at h
  · rename_i t e' h1 h2
    cases h
    exact fun n => ss_unp sole_tup hw rfl ((trE_ok m sc fb e e' W X x h2).e n) (trG_ok x h1)
  · cases h
theorem ix_ne {N : List Str} {x y : Str} {i j : Nat} (hi : N[i]? = some x) (hj : N[j]? = some y) (h : (x == y) = false) : i ≠ j := fun e => by
  subst e
  rw [hi] at hj
  cases hj
  simp at h
theorem trTup_ok (x : XC k cal c sc fb j W X) (hfn : sc.kind = .function) {m : Nat} {ts : List Expr} {kt : Nat} {pt pos : Pos} {e : Expr} {c' : C} (h : trTup c sc fb (trE c m sc) ts kt pt e = some c') : SOk k W G cal X (.Assign [.Tuple ts kt pt] e pos) c' := by
  have hk := kind_of (fun_of x hfn)
  unfold trTup at h
  split at h
  · split at h
    · rename_i y py z pz a b _ _
      split at h
      · rename_i h0
        simp only [Bool.and_eq_true, Bool.not_eq_true'] at h0
        obtain ⟨⟨⟨⟨⟨⟨l1, l2⟩, ln⟩, ne⟩, sa⟩, sb⟩, nb⟩ := h0
        split at h
        · rename_i i j es hi hj h3
          split at h
          · cases h
          · rename_i hij
            cases h
            have hi := ixOf_ok hi
            have hj := ixOf_ok hj
            rw [← x.N] at hi hj
            exact fun n => ss_par x.calm x.nd hi hj (by simpa using hij) (isLoc_of x l1) (isLoc_of x l2) (pa_ok (by simp [sa, sb]) (fun e e' q => (trE_ok (G := G) m sc fb e e' W X x q).e n) h3)
              (sw2_ok hk (isLoc_of x l1) (isLoc_of x l2) ln ne sa sb nb)
        · cases h
      · cases h
    · rename_i y py z pz u pu a b d _ _
      split at h
      · rename_i h0
        simp only [Bool.and_eq_true, Bool.not_eq_true'] at h0
        obtain ⟨⟨⟨⟨⟨⟨⟨⟨⟨⟨⟨l1, l2⟩, l3⟩, ln⟩, ln2⟩, ne⟩, ne2⟩, ne3⟩, sa⟩, sb⟩, sd⟩, nb⟩ := h0
        split at h
        · rename_i i j l es hi hj hl h3
          split at h
          · cases h
          · rename_i hij
            cases h
            have hi := ixOf_ok hi
            have hj := ixOf_ok hj
            rw [← x.N] at hi hj
            have hl := ixOf_ok hl
            rw [← x.N] at hl
            exact fun n => ss_par3 x.calm x.nd hi hj hl (ix_ne hi hj ne) (ix_ne hi hl ne2) (ix_ne hj hl ne3) (isLoc_of x l1) (isLoc_of x l2) (isLoc_of x l3) (pa_ok (by simp [sa, sb, sd]) (fun e e' q => (trE_ok (G := G) m sc fb e e' W X x q).e n) h3)
              (sw3_ok hk (isLoc_of x l1) (isLoc_of x l2) (isLoc_of x l3) ln ln2 ne ne2 ne3 sa sb sd nb)
        · cases h
      · cases h
    · split at h
      · cases h
      · rename_i hl
        exact trUnp_ok x (unp_len (by simpa using hl) _) h
    · cases h
  · rename_i ht
    exact trUnp_ok x (unp_any (by simpa using ht) _) h
theorem trIx_ok (x : XC k cal c sc fb j W X) {m : Nat} {o i e : Expr} {p pos : Pos} {c' : C} (h : trIx (trE c m sc) o i e = some c') : SOk k W G cal X (.Assign [.Subscript o i p] e pos) c' := by
  unfold trIx at h
  split at h
  · rename_i hs
    split at h
    · rename_i o' i' e' h1 h2 h3
      cases h
      exact fun n => ss_setIx hs sole_sub ((trE_ok m sc fb e e' W X x h3).e n) ((trE_ok m sc fb o o' W X x h1).e n) ((trE_ok m sc fb i i' W X x h2).e n)
    · cases h
  · cases h
theorem trAsg_ok (x : XC k cal c sc fb j W X) (hfn : sc.kind = .function) {m : Nat} {ts : List Expr} {e : Expr} {pos : Pos} {c' : C} (h : trAsg c sc fb (trE c m sc) ts e = some c') : SOk k W G cal X (.Assign ts e pos) c' := by
  unfold trAsg at h
  split at h
  · exact trSet_ok x h
  · exact trTup_ok x hfn h
  · exact trIx_ok x h
  · cases h
theorem trEx_ok (x : XC k cal c sc fb j W X) {m : Nat} {e : Expr} {pos : Pos} {c' : C} (h : trEx (trE c m sc) e = some c') : SOk k W G cal X (.Expr e pos) c' := by
  unfold trEx at h
  split at h
  · cases h
    exact fun n => ss_doc
  · split at h
    · rename_i hx
      obtain rfl := eq_of_beq hx
      unfold trApp at h
      split at h
      · rename_i h0
        simp only [Bool.and_eq_true] at h0
        split at h
        · rename_i o' e' h1 h2
          cases h
          exact fun n => ss_app x.K h0.1.1 h0.1.2 h0.2 ((trE_ok m sc fb _ o' W X x h1).e n) ((trE_ok m sc fb _ e' W X x h2).e n)
        · cases h
      · cases h
    · cases h
  · split at h
    · cases h
    · rename_i hc
      obtain ⟨e', h1, rfl⟩ := Option.map_eq_some_iff.mp h
      exact fun n => ss_expr (by simpa using hc) ((trE_ok m sc fb e e' W X x h1).e n)
theorem list_ok {f : Stmt → C} (h : ∀ st, SOk k W G cal X st (f st)) : ∀ (b : List Stmt) (n : Nat), PSs X b (rdS k W (evCs (ev G cal n) G.rs (b.map f)))
  | [], n => ss_nil
  | st :: b, n => ss_cons (h st n) (list_ok h b n)
theorem list_c {f : Stmt → C} (h : ∀ st, SOk k W G cal X st (f st)) (b : List Stmt) (n : Nat) : PSs X b (rdS k W ((ev G cal n).c (b.map f))) := by
  cases n with
  | zero => exact ⟨fun pins s σ H Dn I q => by
      obtain ⟨g, L, S, rl, rs, b⟩ := q
      exact b.elim⟩
  | succ n => exact list_ok h b n
theorem trS_ok (x : XC k cal c sc fb j W X) (hfn : sc.kind = .function) (hp : PassesOwn (model X.prog X.w) X.A X.env X.xe) {m : Nat} : ∀ (q : Nat) (st : Stmt), SOk k W G cal X st (trS c sc fb (trE c m sc) q st) := by
  intro q
  induction q with
  | zero => exact fun st => SOk.bad
  | succ q ih =>
    intro st
    unfold trS
    split
    · exact SOk.g fun c' h => trAsg_ok x hfn h
    · exact SOk.g fun c' h => trEx_ok x h
    · exact fun n => ss_retN
    · refine SOk.g fun c' h => ?_
      obtain ⟨e', h1, rfl⟩ := Option.map_eq_some_iff.mp h
      exact fun n => ss_ret ((trE_ok m sc fb _ e' W X x h1).e n)
    · exact fun n => ss_pass
    · exact fun n => ss_brk
    · exact fun n => ss_cont
    · split
      · rename_i ht
        split
        · rename_i t' h1
          exact fun n => ss_ite ((trE_ok m sc fb _ t' W X x h1).t ht n) (list_c ih _ n) (list_c ih _ n)
        · exact SOk.bad
      · exact SOk.bad
    · split
      · rename_i ht
        split
        · rename_i t' h1
          exact fun n => ss_wh hp (fun n => (trE_ok m sc fb _ t' W X x h1).t ht n) (fun n => list_c ih _ n) n
        · exact SOk.bad
      · exact SOk.bad
    · split
      · rename_i tg' kk es h1 h2
        obtain ⟨i1, i2⟩ := trI_ok (G := G) x (fun e e' z n => (trE_ok m sc fb e e' W X x z).e n) h2
        exact fun n => ss_for hp x.calm (i1 n) (trG_ok x h1) (list_c ih _ n) (i2 X.env)
      · exact SOk.bad
    · exact SOk.bad
end
end Mn
/-! Mn17: all defs of a program; the law's end. -/
namespace Mn
open L2 PyProof.Rows PySem.Spec PySem
/-- a def of the text -/
structure Fd where
  x : Str
  qual : Str
  params : Arguments
  body : List Stmt
  scope : Scope
  ps : List Str
  N : List Str
  dps : List P
  own : Pos → Bool
structure Gc where
  fds : List Fd
  con : List (Str × P)
  free : List Str
def fnIx (x : Str) : List Fd → Nat → Option (Nat × Nat × List P)
  | [], _ => none
  | d :: r, i => if d.x == x then some (i, d.ps.length, d.dps) else fnIx x r (i + 1)
theorem fnIx_ok {x : Str} {i np : Nat} {dps : List P} : ∀ {l : List Fd} {b : Nat}, fnIx x l b = some (i, np, dps) → ∃ n d, i = b + n ∧ l[n]? = some d ∧ d.x = x ∧ d.ps.length = np ∧ d.dps = dps
  | [], _, h => by simp [fnIx] at h
  | d :: r, b, h => by
    unfold fnIx at h
    split at h
    · rename_i e
      cases h
      exact ⟨0, d, rfl, rfl, eq_of_beq e, rfl, rfl⟩
    · obtain ⟨n, d', h1, h2, h3⟩ := fnIx_ok h
      exact ⟨n + 1, d', by omega, by simpa using h2, h3⟩
def cfOf (gc : Gc) (fd : Fd) : Cf where
  N := fd.N
  own := fd.own
  con := fun x => gc.con.lookup x
  fn := fun x => fnIx x gc.fds 0
  free := fun x => gc.free.contains x
def defOf (gc : Gc) (fd : Fd) : Def := ⟨fd.ps.length, fd.N.length, trB (cfOf gc fd) fd.scope (fun _ => true) fd.body⟩
def progOf (gc : Gc) (fu : Nat) : Prog := ⟨gc.fds.map (defOf gc), fun _ _ => none, fu⟩
def kaOf (K : PySem.W.Frag) : Ka := ⟨K, fun _ => none⟩
/-- what is known of a def's object -/
structure Df (K : PySem.W.Frag) (mg : Str → Option Value) (fd : Fd) (f : Addr) (da : FuncData) : Prop where
  at_ : mg fd.x = some (.ref f)
  kp : PySem.W.keepIn K (.ref f) = true
  sc : FnScope fd.N fd.ps fd.scope
  fn : ∃ dvs kws, FunD K fd.x fd.qual fd.params fd.body fd.scope dvs kws f da
  bn : ∀ m, m ≤ fd.dps.length → ∃ dvs ds, KPs (kaOf K) dvs (fd.dps.drop m) ∧ Vals dvs ds ∧ Binds K da fd.ps ds
/-- what stands behind the top -/
structure Wf (gc : Gc) (K : PySem.W.Frag) (mg : Str → Option Value) : Prop where
  con : ∀ x p, gc.con.lookup x = some p → ∃ u v, mg x = some u ∧ RelV v u ∧ ∀ g H, RP (kaOf K) g H v p
  free : ∀ x ∈ gc.free, mg x = none
  defs : ∀ (i : Nat) (fd : Fd), gc.fds[i]? = some fd → ∃ f da, Df K mg fd f da
section
variable {gc : Gc} {P : Program} {w : World} {K : PySem.W.Frag} {mg : Str → Option Value} {base : Heap} {fu : Nat}
theorem endR_in {k : Ka} {g : Gs} {H : Hp} {fl : Fl} {Q : VK} {E : XK} (b : Bk k (fun c d _ H => E c d H) [] g H (endR fl) fun d _ g' H' => ∀ v, RD k g' H' v d → Q v H') : Bf k (fun c d _ H => E c d H) g H fl { nx := fun _ H' => Q .non H', rt := Q } := by
  cases fl with
  | nx L S => exact fun g' H' σ' x rs rl => b g' H' x rs .non .non
  | rt d S => exact fun g' H' v x rs r => b g' H' x rs v r
  | bk L S => exact b.elim
  | ct L S => exact b.elim
  | ex z L S => exact fun g' H' σ' cls dd x rs rl rx => b g' H' cls dd x rs rx
  | bad => exact b.elim
theorem RL.start {k : Ka} {g : Gs} {H : Hp} {vs : List V} {ds : List D} (r : RDs k g H vs ds) (N : List Str) : RL k g H (L2.start N vs) (ds.map some ++ List.replicate (N.length - ds.length) none) := by
  have hl := r.length
  refine ⟨by unfold L2.start; simp [hl], fun i d e => ?_⟩
  have hi : i < ds.length := by
    by_cases hi : i < ds.length
    · exact hi
    · rw [List.getElem?_append_right (by simpa using hi), List.getElem?_replicate] at e
      split at e <;> cases e
  rw [List.getElem?_append_left (by simpa using hi), List.getElem?_map] at e
  obtain ⟨d', e1, e2⟩ := Option.map_eq_some_iff.mp e
  cases e2
  obtain ⟨v, e3, rv⟩ := r.get e1
  refine ⟨v, ?_, rv⟩
  unfold L2.start
  rw [List.getElem?_append_left (by rw [List.length_map, hl]; exact hi), List.getElem?_map, e3]
  rfl
theorem all_ok (wf : Wf gc K mg) : ∀ (j i : Nat) (fd : Fd) (f : Addr) (da : FuncData), gc.fds[i]? = some fd → Df K mg fd f da → GOk P w K mg base j f da fd.ps (spD (kaOf K) fd.ps.length (evF (progOf gc fu) j i)) := by
  intro j
  induction j with
  | zero =>
    intro i fd f da hi df
    refine ⟨fun vs H Q E h => h.1, fun A outer s H args us vs Q E _ _ _ _ _ h => ?_⟩
    obtain ⟨_, _, _, _, _, _, b⟩ := h
    exact b.elim
  | succ j ih =>
    intro i fd f da hi df
    obtain ⟨_, hk, Sc, ⟨dvs, kws, F⟩, _⟩ := df
    obtain ⟨oc, od, dV, kV, doc, pm, an, cdv, ct, osl, e0, lk, hcd, _, _⟩ := F.ex
    rw [e0] at lk ⊢
    refine gok_of lk hcd Sc (fun vs H Q E h => h.1) fun A outer s H vs Q E hr hgu h => ?_
    obtain ⟨hl, g, ds, S, rs, rv, b⟩ := h
    refine ⟨rdS (kaOf K) (fun c d _ H => E c d H) ((ev (progOf gc fu) (evF (progOf gc fu) j) fu).c (defOf gc fd).b), ?_, g, _, S, RL.start rv fd.N, rs, ?_⟩
    · have x : XC (kaOf K) (evF (progOf gc fu) j) (cfOf gc fd) fd.scope (fun _ => true) j (fun c d _ H => E c d H) (cxOf (L2.CX P w) P w K mg base fd.N fd.qual fd.scope f cdv A outer s H E) := by
        refine ⟨rfl, rfl, Sc.nd, rfl, fun _ _ => rfl, rfl, hr, hgu, takes_of rfl rfl rfl rfl, wf.con, fun y i2 np dps h2 => ?_, fun y hy => wf.free y (by simpa [cfOf] using hy)⟩
        obtain ⟨n, d2, h3, h4, h5, h6, h7⟩ := fnIx_ok h2
        rw [Nat.zero_add] at h3
        subst h3
        obtain ⟨f2, da2, df2⟩ := wf.defs _ d2 h4
        subst h5 h6 h7
        exact ⟨f2, da2, _, df2.at_, df2.kp, ih _ d2 f2 da2 h4 df2, df2.bn⟩
      exact list_c (trS_ok x Sc.kind (passes_of rfl) 40) fd.body fu
    · have hd : (progOf gc fu).ds[i]? = some (defOf gc fd) := by
        show (gc.fds.map (defOf gc))[i]? = _
        rw [List.getElem?_map, hi]
        rfl
      unfold evF at b
      rw [hd] at b
      have hl2 : ds.length = fd.ps.length := by rw [← rv.length]; exact hl
      dsimp only at b
      rw [if_pos (show ds.length = (defOf gc fd).np from hl2)] at b
      have hl3 : fd.N.length - ds.length = (defOf gc fd).nl - (defOf gc fd).np := by rw [hl2]; rfl
      rw [hl3]
      exact endR_in b
end

/-! ### the law -/
theorem law_go {P : Program} {w : World} {K : PySem.W.Frag} {mg mb : Str → Option Value} {j : Nat} {fa a : Addr} {fd : FuncData} {x : Str} {sp : Sp} {s₁ : Shared} {vs : List Value} {ns : List Int}
    (KX : K.In s₁.heap) (hns : s₁.heap.Ns mainGlobals mg) (hb : s₁.heap.Ns builtinsNs mb) (hbb : ∀ x : Str, x ≠ "__name__" → mb x = bootBuiltins x) (hlim : s₁.heap.NoLimit) (hg : s₁.gens = #[])
    (ha : s₁.heap.get? a = some { cls := .type "list", data := .seq vs.toArray }) (hi : IntsAre vs ns) (hl : ns.length ≤ sizeLine) (room : Room j callerA)
    (F : ∀ base : Heap, K.In base → base.Ns mainGlobals mg → GOk P w K mg base j fa fd [x] sp) (bnd : ∀ (s : Shared) (u : Value), BindsTo s fd ⟨[u], []⟩ [(x, u)])
    (hsp : ∀ H : Hp, ScA K ⟨fun _ => False, []⟩ H a (ns.map V.int) → sp [.ref a] H (fun v _ => v = .bl true) fun _ _ _ => False) :
    codeAny (model P w) callerA (.call (.ref fa) ⟨[.ref a], []⟩) (fun r s' => r = .ok (.ret (.bool true)) ∧ OldK s₁.heap s'.heap ∧ s'.os = s₁.os ∧ AllBare s'.gens) s₁ := by
  have rvs : Vals (ns.map V.int) vs := vals_ints hi
  have lens := hi.length
  -- whatever is tracked is the script
  have main : ∀ H : Hp, (∀ b u, H b = some u → b = a ∧ K.lookup b = none ∧ ∃ o xs, u = .frz o (.lst xs)) → ScA K ⟨fun _ => False, []⟩ H a (ns.map V.int) → HOk P w H s₁.heap →
      codeAny (model P w) callerA (.call (.ref fa) ⟨[.ref a], []⟩) (fun r s' => r = .ok (.ret (.bool true)) ∧ OldK s₁.heap s'.heap ∧ s'.os = s₁.os ∧ AllBare s'.gens) s₁ := by
    intro H only sc hok
    have unt : ∀ (b : Addr) (o : Obj), s₁.heap.get? b = some o → b ≠ a ∨ K.lookup b ≠ none → (hidT s₁.heap H).get? b = some o := by
      intro b o e d
      refine hidT_get e ?_
      cases q : H b with
      | none => rfl
      | some u =>
        obtain ⟨e1, e2, _⟩ := only b u q
        exact (d.elim (fun z => z e1) (fun z => z e2)).elim
    have ns_of : ∀ {b : Addr} {m : Str → Option Value}, s₁.heap.Ns b m → (hidT s₁.heap H).Ns b m := by
      rintro b m ⟨o, es, ep, e, d, r⟩
      refine ⟨o, es, ep, unt b o e (.inl ?_), d, r⟩
      rintro rfl
      rw [ha] at e
      cases e
      cases d
    have k_of : K.In (hidT s₁.heap H) := fun b o e => unt b o (KX b o e) (.inr (by rw [e]; intro z; cases z))
    have lim_of : (hidT s₁.heap H).NoLimit := by
      obtain ⟨mc, l1, l2⟩ := hlim
      exact ⟨mc, ns_of l1, l2⟩
    have env : Env0 P w K mg (hidT s₁.heap H) callerA [] s₁ H := {
      frames := rfl
      mod := ⟨k_of, ns_of hns, ⟨mb, ns_of hb, hbb⟩, lim_of⟩
      bs := fun b o e => of_hidT e
      bsz := Nat.le_of_eq (hidT_size _ _)
      funs := trivial
      frf := fun b z => by cases z
      hok := hok
      bare := .of_eq hg }
    refine codeAny_mono ((F _ k_of (ns_of hns)).go callerA [] s₁ H ⟨[.ref a], []⟩ [.ref a] [.ref a] _ _ room rfl env (bnd s₁ (.ref a)) (.cons rfl .nil) (hsp H sc)) ?_
    intro r s' q
    match r, q with
    | .error e, q =>
      obtain ⟨_, _, _, _, _, _, _, _, _, _, _, _, z⟩ := q
      exact z.elim
    | .ok .next, q => exact q.elim
    | .ok .brk, q => exact q.elim
    | .ok .cont, q => exact q.elim
    | .ok (.ret u), ⟨v, H', os, bare, un, hok', ru, q⟩ =>
      have q : v = .bl true := q
      subst q
      cases ru
      refine ⟨rfl, OldK.of_keep ?_, os, bare⟩
      intro b o e
      cases q : H b with
      | none => exact un.keep b o e q (fun z => by cases z) (fun z => by cases z)
      | some u =>
        obtain ⟨_, _, ob, xs, rfl⟩ := only b u q
        have old := (hok b _ q).1
        have new := (hok' b _ (un.frzs b ob _ q)).1
        rw [e] at old
        cases old
        exact new
  cases q : K.lookup a with
  | some o =>
    have same : o = { cls := .type "list", data := .seq vs.toArray } := Option.some.inj ((KX a o q).symm.trans ha)
    subst same
    refine main (fun _ => none) (fun b u z => by cases z) (.inr ⟨_, vs.toArray, _, q, rfl, rfl, rfl, ?_, by simpa using rvs⟩) fun b u z => by cases z
    rw [List.size_toArray, lens]
    exact hl
  | none =>
    have pick : ∀ b u, (if b = a then some (HO.frz { cls := .type "list", data := .seq vs.toArray } (.lst (ns.map V.int))) else none) = some u → b = a ∧ u = .frz { cls := .type "list", data := .seq vs.toArray } (.lst (ns.map V.int)) := by
      intro b u z
      split at z
      · cases z; exact ⟨by assumption, rfl⟩
      · cases z
    refine main (fun b => if b = a then some (.frz { cls := .type "list", data := .seq vs.toArray } (.lst (ns.map V.int))) else none) (fun b u z => ?_) (.inl ⟨_, if_pos rfl, fun z => ?_⟩) fun b u z => ?_
    · obtain ⟨rfl, rfl⟩ := pick b u z
      exact ⟨rfl, q, _, _, rfl⟩
    · rcases z with z | z
      · exact z
      · cases z
    · obtain ⟨rfl, rfl⟩ := pick b u z
      exact ⟨ha, by rw [List.length_map]; exact hl, vs, _, rvs, ha⟩
/-- a law by its evaluation -/
theorem law_end {l : PySem.W.OpenLaw} {n j : Nat} {q : Program} {loose : List Str} {XP : (Str → Option Value) → Heap → Prop} {YP : World → Heap → Prop} {d : DefRec} {gc : Gc} {fu iL : Nat} {fdL : Fd} {x : Str}
    (hn : l.most = some n) (hn2 : n ≤ sizeLine) (hdf : d.params.defaults = []) (room : Room j callerA) (hL : gc.fds[iL]? = some fdL) (hx : fdL.ps = [x]) (hname : fdL.x = d.name)
    (F : ∀ (w : World) (mg : Str → Option Value) (h : Heap), YP w h → h.Ns mainGlobals mg → ∃ (K : PySem.W.Frag) (f : Addr) (da : FuncData), K.In h ∧ Wf gc K mg ∧ Df K mg fdL f da ∧ ∀ (s : Shared) (u : Value), BindsTo s da ⟨[u], []⟩ [(x, u)])
    (law : ∀ ns : List Int, ns.length ≤ n → ∃ S, evF (progOf gc fu) j iL [.p (.scr ns)] [] = .ok (.p (.bl true)) S) :
    PySem.W.WalkO q loose XP YP l.row.toRowW d [] (fun f vs => PySem.call f vs) := by
  refine Att.attach_call hn hdf fun w s₀ s₁ mg mb fa o pm cd doc a vs ns G Y ho hd hcd hmg hobj hints hlen hg => ?_
  obtain ⟨K, f, da, KX, wf, df, hb⟩ := F w mg _ Y G.T.g
  have e : fa = f := by
    have := df.at_
    rw [hname, hmg] at this
    cases this
    rfl
  subst e
  refine law_go KX G.T.g G.T.b G.T.builtins G.T.nolimit hg hobj hints (Nat.le_trans hlen hn2) room (fun base _ _ => hx ▸ all_ok (fu := fu) wf j iL fdL fa da hL df) hb fun H sc => ?_
  obtain ⟨S, run⟩ := law ns hlen
  have r0 : RS (kaOf K) ⟨fun _ => False, []⟩ H [] := { len := rfl, nd := List.nodup_nil, fl := fun _ z => z.elim, dj := (fun _ z => by cases z), cell := fun n a ds z _ => by cases n <;> cases z }
  refine ⟨rfl, ⟨fun _ => False, []⟩, [.p (.scr ns)], [], r0, .cons (RP.scr sc) .nil, ?_⟩
  rw [run]
  intro g' H' x' rs v r
  cases (show RP (kaOf K) g' H' v (.bl true) from r)
  rfl
end Mn
/-! Mn18: the head's facts for the evaluator. -/
namespace Mn
open L2 PyProof.Rows PySem.Spec PySem
mutual
/-- u stands for the constant p, its objects the module's own -/
def valB (K : PySem.W.Frag) : P → Value → Bool
  | .non, .none => true
  | .bl b, .bool c => b == c
  | .int i, .int j _ => decide (i = j)
  | .str x, .str y _ => decide (x = y)
  | .tup ps, .ref a => match K.lookup a with
    | some ⟨.type c, none, .seq its _, _⟩ => decide (c = "tuple") && (decide (its.size ≤ sizeLine) && valsB K ps its.toList)
    | _ => false
  | _, _ => false
def valsB (K : PySem.W.Frag) : List P → List Value → Bool
  | [], [] => true
  | p :: ps, u :: us => valB K p u && valsB K ps us
  | _, _ => false
end
section
variable {K : PySem.W.Frag}
mutual
theorem valB_ok : ∀ {p : P} {u : Value}, valB K p u = true → ∃ v, RelV v u ∧ ∀ g H, RP (kaOf K) g H v p
  | .non, u, h => by
    cases u <;> first | (simp [valB] at h; done) | skip
    exact ⟨.non, rfl, fun _ _ => .non⟩
  | .bl b, u, h => by
    cases u <;> first | (simp [valB] at h; done) | skip
    rename_i c
    have : b = c := by simpa [valB] using h
    subst this
    exact ⟨.bl b, rfl, fun _ _ => .bl b⟩
  | .int i, u, h => by
    cases u <;> first | (simp [valB] at h; done) | skip
    rename_i j t
    have : i = j := by simpa [valB] using h
    subst this
    exact ⟨.int i, ⟨t, rfl⟩, fun _ _ => .int i⟩
  | .str x, u, h => by
    cases u <;> first | (simp [valB] at h; done) | skip
    rename_i y t
    have : x = y := by simpa [valB] using h
    subst this
    exact ⟨.str x, ⟨t, rfl⟩, fun _ _ => .str x⟩
  | .tup ps, u, h => by
    cases u with
    | ref a =>
      unfold valB at h
      split at h
      · rename_i c its n sl e
        simp only [Bool.and_eq_true, decide_eq_true_eq] at h
        obtain ⟨rfl, h2, h3⟩ := h
        obtain ⟨vs, r1, r2⟩ := valsB_ok h3
        exact ⟨.ref a, rfl, fun g H => .tup (.inr ⟨_, its, n, e, rfl, rfl, rfl, h2, r1⟩) (r2 g H)⟩
      · cases h
    | _ => simp [valB] at h
  | .lst _, u, h => by cases u <;> simp [valB] at h
  | .fn _, u, h => by cases u <;> simp [valB] at h
  | .scr _, u, h => by cases u <;> simp [valB] at h
theorem valsB_ok : ∀ {ps : List P} {us : List Value}, valsB K ps us = true → ∃ vs, Vals vs us ∧ ∀ g H, RPs (kaOf K) g H vs ps
  | [], [], _ => ⟨[], .nil, fun _ _ => .nil⟩
  | p :: ps, u :: us, h => by
    unfold valsB at h
    rw [Bool.and_eq_true] at h
    obtain ⟨v, a, b⟩ := valB_ok h.1
    obtain ⟨vs, a', b'⟩ := valsB_ok h.2
    exact ⟨v :: vs, .cons a a', fun g H => .cons (b g H) (b' g H)⟩
  | [], _ :: _, h => by simp [valsB] at h
  | _ :: _, [], h => by simp [valsB] at h
end
def conB (K : PySem.W.Frag) (q : Str × P) : Bool := match PySem.W.nsIn K mainGlobals q.1 with
  | some (some u) => valB K q.2 u
  | _ => false
def consB (con : List (Str × P)) (K : PySem.W.Frag) : Bool := con.all (conB K)
theorem con_in : ∀ {con : List (Str × P)} {x : Str} {p : P}, con.lookup x = some p → (x, p) ∈ con
  | (y, q) :: r, x, p, h => by
    rw [List.lookup_cons] at h
    cases e : x == y with
    | true =>
      rw [e] at h
      cases h
      rw [eq_of_beq e]
      exact List.mem_cons_self
    | false =>
      rw [e] at h
      exact List.mem_cons_of_mem _ (con_in h)
theorem consB_ok {con : List (Str × P)} {h : Heap} {mg : Str → Option Value} (X : K.In h) (G : h.Ns mainGlobals mg) (c : consB con K = true) (x : Str) (p : P) (e : con.lookup x = some p) : ∃ u v, mg x = some u ∧ RelV v u ∧ ∀ g H, RP (kaOf K) g H v p := by
  have q : conB K (x, p) = true := List.all_eq_true.mp c _ (con_in e)
  unfold conB at q
  split at q
  · rename_i u z
    obtain ⟨v, r1, r2⟩ := valB_ok q
    exact ⟨u, v, PySem.W.mg_of X G z, r1, r2⟩
  · cases q
end
/-! ### the Hook -/
def obsM (con : List (Str × P)) (fa : List He.Fa) (fn : List He.DefD) (K : PySem.W.Frag) : Bool × He.AlD := (consB con K, He.obsD fa fn K)
def SaysM (con : List (Str × P)) (fa : List He.Fa) (fn : List He.DefD) (K : PySem.W.Frag) : Prop := obsM con fa fn K = (true, He.valD fn)
def obsMG (n : Nat) (con : List (Str × P)) (fa : List He.Fa) (fn : List He.DefD) (g : Addr → Option Obj) : Bool × He.AlD := obsM con fa fn (He.frG g (He.asD g n))
def hookM (n : Nat) (con : List (Str × P)) (fa : List He.Fa) (fn : List He.DefD) : PySem.W.Hook where
  α := Bool × He.AlD
  obs := fun s => obsMG n con fa fn s.heap.get?
  val := fun _ => (true, He.valD fn)
  says := fun _ h => ∃ K : PySem.W.Frag, K.In h ∧ SaysM con fa fn K
  of := fun _ _ e => ⟨_, He.frG_in, e⟩
  keeps := fun _ _ _ ⟨K, hK, c⟩ k => ⟨K, PySem.W.Frag.In.keeps hK k, c⟩
theorem obsMG_eq {n : Nat} {con : List (Str × P)} {fa : List He.Fa} {fn : List He.DefD} {g : Addr → Option Obj} {s : Shared} (h : ∀ a, g a = s.heap.get? a) : obsMG n con fa fn g = (hookM n con fa fn).obs s := by
  obtain rfl : g = s.heap.get? := funext h
  rfl
theorem SaysM.d {con : List (Str × P)} {fa : List He.Fa} {fn : List He.DefD} {K : PySem.W.Frag} (c : SaysM con fa fn K) : He.SaysD fa fn K := congrArg Prod.snd c
theorem SaysM.c {con : List (Str × P)} {fa : List He.Fa} {fn : List He.DefD} {K : PySem.W.Frag} (c : SaysM con fa fn K) : consB con K = true := congrArg Prod.fst c
/-! ### the list of the defs -/
def Each (Q : Nat → Fd → Prop) : List Fd → Nat → Prop
  | [], _ => True
  | d :: r, i => Q i d ∧ Each Q r (i + 1)
theorem Each.get {Q : Nat → Fd → Prop} : ∀ {l : List Fd} {b i : Nat} {d : Fd}, Each Q l b → l[i]? = some d → Q (b + i) d
  | d :: r, b, 0, e, h, z => by
    cases z
    exact h.1
  | d :: r, b, i + 1, e, h, z => by
    have q := Each.get (i := i) h.2 (by simpa using z)
    rw [show b + (i + 1) = b + 1 + i from by omega]
    exact q
  | [], _, _, _, _, z => by simp at z
/-- scalar constants -/
def pDv : P → He.Dv
  | .bl b => .bl b
  | .int i => .int i
  | .str x => .str x
  | _ => .non
def scalP : P → Bool
  | .non => true
  | .bl _ => true
  | .int _ => true
  | .str _ => true
  | _ => false
theorem scal_kps {K : PySem.W.Frag} : ∀ {l : List P}, l.all scalP = true → KPs (kaOf K) ((l.map pDv).map (He.Dv.v K)) l
  | [], _ => fun _ _ => .nil
  | p :: l, h => fun g H => by
    rw [List.all_cons, Bool.and_eq_true] at h
    refine .cons ?_ (scal_kps h.2 g H)
    cases p with
    | non => exact .non
    | bl b => exact .bl b
    | int i => exact .int i
    | str x => exact .str x
    | _ => cases h.1
/-- a def of the top, called by its own name -/
def ddOf (fd : Fd) : He.DefD := ⟨(fd.x, none), fd.x, fd.qual, fd.params, fd.body, fd.scope, fd.dps.map pDv, []⟩
section
variable {K : PySem.W.Frag} {mg : Str → Option Value} {fd : Fd}
/-- how a def binds: none of its parameters has a default -/
def BindN (fd : Fd) : Prop := ∀ (kV doc pm : Value) (an : Option Addr) (cdv ct : Value) (us : List Value), us.length = fd.ps.length → bindArgs (PySem.W.fnOf fd.x fd.qual fd.params fd.body fd.scope .none kV doc pm an cdv ct) ⟨us, []⟩ = pure (fd.ps.zip us)
/-- n of them are written, the defaults behind the first m fill up -/
def BindD (fd : Fd) (n m : Nat) : Prop := ∀ (T : Addr) (kV doc pm : Value) (an : Option Addr) (cdv ct : Value) (us its : List Value), us.length = n → its.length = fd.dps.length →
  ∃ k, bindArgs (PySem.W.fnOf fd.x fd.qual fd.params fd.body fd.scope (.ref T) kV doc pm an cdv ct) ⟨us, []⟩ = seqItems? (.ref T) >>= k ∧ k (some its.toArray) = pure (fd.ps.zip (us ++ its.drop m))
theorem df_none {fa : FuncData} {f : Addr} (F : FunD K fd.x fd.qual fd.params fd.body fd.scope [] [] f fa) (hm : mg fd.x = some (.ref f)) (sc : FnScope fd.N fd.ps fd.scope) (hd : fd.dps = []) (b : BindN fd) : Df K mg fd f fa :=
  ⟨hm, F.kp, sc, ⟨_, _, F⟩, fun m hm => ⟨[], [], by rw [hd]; intro g H; rw [List.drop_nil]; exact .nil, .nil, F.bindsN b⟩⟩
theorem df_some {fa : FuncData} {f : Addr} (F : FunD K fd.x fd.qual fd.params fd.body fd.scope ((fd.dps.map pDv).map (He.Dv.v K)) [] f fa) (hm : mg fd.x = some (.ref f)) (sc : FnScope fd.N fd.ps fd.scope) (hd : fd.dps ≠ []) (hs : fd.dps.all scalP = true)
    (hl : fd.dps.length ≤ fd.ps.length) (b : ∀ m, m ≤ fd.dps.length → BindD fd (fd.ps.length - (fd.dps.length - m)) m) : Df K mg fd f fa := by
  refine ⟨hm, F.kp, sc, ⟨_, _, F⟩, fun m hm => ?_⟩
  have hne : (fd.dps.map pDv).map (He.Dv.v K) ≠ [] := by simpa using hd
  obtain ⟨ds, h1, h2⟩ := F.binds1 (ps := fd.ps) (fd.ps.length - (fd.dps.length - m)) m hne (by rw [List.length_map, List.length_map]; omega) fun T kV doc pm an cdv ct us its l1 l2 => b m hm T kV doc pm an cdv ct us its l1 (by rw [List.length_map, List.length_map] at l2; exact l2)
  refine ⟨_, ds, ?_, h1, h2⟩
  rw [← List.map_drop, ← List.map_drop]
  exact scal_kps (List.all_eq_true.mpr fun p hp => List.all_eq_true.mp hs p (List.mem_of_mem_drop hp))
end
end Mn
/-! the defs of the text (printed by gen.py) -/
namespace Lw21
open L2 Mn PyProof.Rows PySem.Spec PySem
def top (i : Nat) : Stmt := PySem.Challenge.pw_hushworks_k21_whole_numbers.main.body.getD i (.Pass ⟨0, 0, 0, 0⟩)
def fdOf (i : Nat) (x : Str) (ps N : List Str) (dps : List P) (ow : List (Nat × Nat)) : Fd := ⟨x, x, defArgs (top i), defBody (top i), defScope (top i), ps, N, dps, fun p => ow.contains (p.line, p.col)⟩
def d0 : Fd := fdOf 10 "is_integer" ["value"] ["value"] [] []
def d1 : Fd := fdOf 11 "common_divisor" ["one", "other"] ["one", "other"] [] []
def d2 : Fd := fdOf 12 "is_number" ["value"] ["value", "one"] [] []
def d3 : Fd := fdOf 13 "reduced" ["top", "bottom"] ["top", "bottom", "divisor"] [] []
def d4 : Fd := fdOf 14 "number" ["top", "bottom"] ["top", "bottom"] [.int 1] []
def d5 : Fd := fdOf 15 "require_number" ["value"] ["value"] [] []
def d6 : Fd := fdOf 16 "require_count" ["value", "least", "most"] ["value", "least", "most"] [.int 0, .int (60)] []
def d7 : Fd := fdOf 17 "added" ["one", "other"] ["one", "other"] [] []
def d8 : Fd := fdOf 18 "multiplied" ["one", "other"] ["one", "other"] [] []
def d9 : Fd := fdOf 19 "opposite" ["one"] ["one"] [] []
def d10 : Fd := fdOf 20 "divided" ["one", "other"] ["one", "other"] [] []
def d11 : Fd := fdOf 21 "sum_of" ["numbers"] ["numbers", "found", "one"] [] []
def d12 : Fd := fdOf 22 "plus" ["one", "other"] ["one", "other"] [] []
def d13 : Fd := fdOf 23 "minus" ["one", "other"] ["one", "other"] [] []
def d14 : Fd := fdOf 24 "times" ["one", "other"] ["one", "other"] [] []
def d15 : Fd := fdOf 25 "over" ["one", "other"] ["one", "other"] [] []
def d16 : Fd := fdOf 26 "compared" ["one", "other"] ["one", "other", "left", "right"] [] []
def d17 : Fd := fdOf 27 "total" ["numbers"] ["numbers", "one"] [] []
def d18 : Fd := fdOf 28 "power" ["one", "many"] ["one", "many", "found", "_"] [] []
def d19 : Fd := fdOf 30 "_law_dice" ["script", "spot"] ["script", "spot", "cell", "great", "seed"] [] [(105, 11)]
def d20 : Fd := fdOf 31 "_law_roll" ["dice", "many"] ["dice", "many", "found", "one", "two"] [] []
def d21 : Fd := fdOf 32 "_law_pick" ["dice", "items"] ["dice", "items"] [] []
def d22 : Fd := fdOf 33 "_law_fr" ["top", "bottom"] ["top", "bottom", "one", "other", "sign"] [] []
def d23 : Fd := fdOf 34 "_law_plus" ["one", "other"] ["one", "other"] [] []
def d24 : Fd := fdOf 35 "_law_times" ["one", "other"] ["one", "other"] [] []
def d25 : Fd := fdOf 36 "_law_minus" ["one", "other"] ["one", "other"] [] []
def d26 : Fd := fdOf 37 "_law_integer" ["dice"] ["dice", "bound"] [] []
def d27 : Fd := fdOf 38 "_law_drawn" ["dice"] ["dice"] [] []
def d28 : Fd := fdOf 39 "_law_right" ["dice"] ["dice", "one", "other", "third", "told", "due", "left", "right", "row", "item", "many", "turn", "top", "bottom"] [] []
def d29 : Fd := fdOf 40 "law" ["script"] ["script", "spot", "dice", "turn", "great", "told"] [] []
def con : List (Str × P) := [("NOUGHT", .tup [.int 0, .int 1]), ("ONE", .tup [.int 1, .int 1]), ("MAX_COUNT", .int 60), ("MOST_PASSED", .int (10000000000000000000000000000000000000000))]
def free : List Str := ["abs", "all", "bool", "int", "isinstance", "len", "max", "min", "range", "repr", "tuple"]
def fds : List Fd := [d0, d1, d2, d3, d4, d5, d6, d7, d8, d9, d10, d11, d12, d13, d14, d15, d16, d17, d18, d19, d20, d21, d22, d23, d24, d25, d26, d27, d28, d29]
def gc : Gc := ⟨fds, con, free⟩
def fn : List He.DefD := fds.map ddOf
def fa : List He.Fa := (fds.map fun d => He.Fa.glo d.x) ++ free.map He.Fa.free
section
variable {K : PySem.W.Frag} {h : Heap} {mg : Str → Option Value}
theorem s0 : FnScope d0.N d0.ps d0.scope := ⟨rfl, rfl, rfl, by decide +kernel, rfl, by decide +kernel, by decide +kernel⟩
theorem b0 : BindN d0 := fun _ _ _ _ _ _ us hl => match us, hl with | [_], _ => rfl
theorem e0 (X : K.In h) (G : h.Ns mainGlobals mg) (c : SaysM con fa fn K) : ∃ f da, Df K mg d0 f da := by
  obtain ⟨da, F⟩ := c.d.def_ 0 (d := ddOf d0) rfl
  exact ⟨_, da, df_none F (He.glo_ok X G (c.d.fact 0 (f := .glo "is_integer") rfl)) s0 rfl b0⟩
theorem s1 : FnScope d1.N d1.ps d1.scope := ⟨rfl, rfl, rfl, by decide +kernel, rfl, by decide +kernel, by decide +kernel⟩
theorem b1 : BindN d1 := fun _ _ _ _ _ _ us hl => match us, hl with | [_, _], _ => rfl
theorem e1 (X : K.In h) (G : h.Ns mainGlobals mg) (c : SaysM con fa fn K) : ∃ f da, Df K mg d1 f da := by
  obtain ⟨da, F⟩ := c.d.def_ 1 (d := ddOf d1) rfl
  exact ⟨_, da, df_none F (He.glo_ok X G (c.d.fact 1 (f := .glo "common_divisor") rfl)) s1 rfl b1⟩
theorem s2 : FnScope d2.N d2.ps d2.scope := ⟨rfl, rfl, rfl, by decide +kernel, rfl, by decide +kernel, by decide +kernel⟩
theorem b2 : BindN d2 := fun _ _ _ _ _ _ us hl => match us, hl with | [_], _ => rfl
theorem e2 (X : K.In h) (G : h.Ns mainGlobals mg) (c : SaysM con fa fn K) : ∃ f da, Df K mg d2 f da := by
  obtain ⟨da, F⟩ := c.d.def_ 2 (d := ddOf d2) rfl
  exact ⟨_, da, df_none F (He.glo_ok X G (c.d.fact 2 (f := .glo "is_number") rfl)) s2 rfl b2⟩
theorem s3 : FnScope d3.N d3.ps d3.scope := ⟨rfl, rfl, rfl, by decide +kernel, rfl, by decide +kernel, by decide +kernel⟩
theorem b3 : BindN d3 := fun _ _ _ _ _ _ us hl => match us, hl with | [_, _], _ => rfl
theorem e3 (X : K.In h) (G : h.Ns mainGlobals mg) (c : SaysM con fa fn K) : ∃ f da, Df K mg d3 f da := by
  obtain ⟨da, F⟩ := c.d.def_ 3 (d := ddOf d3) rfl
  exact ⟨_, da, df_none F (He.glo_ok X G (c.d.fact 3 (f := .glo "reduced") rfl)) s3 rfl b3⟩
theorem s4 : FnScope d4.N d4.ps d4.scope := ⟨rfl, rfl, rfl, by decide +kernel, rfl, by decide +kernel, by decide +kernel⟩
theorem e4 (X : K.In h) (G : h.Ns mainGlobals mg) (c : SaysM con fa fn K) : ∃ f da, Df K mg d4 f da := by
  obtain ⟨da, F⟩ := c.d.def_ 4 (d := ddOf d4) rfl
  exact ⟨_, da, df_some F (He.glo_ok X G (c.d.fact 4 (f := .glo "number") rfl)) s4 (by decide) rfl (by decide) fun m hm => match m, hm with | 0, _ => fun _ _ _ _ _ _ _ us its h1 h2 => (match us, its, h1, h2 with | [_], [_], _, _ => ⟨_, rfl, rfl⟩) | 1, _ => fun _ _ _ _ _ _ _ us its h1 h2 => (match us, its, h1, h2 with | [_, _], [_], _, _ => ⟨_, rfl, rfl⟩) | m + 2, hm => absurd (show m + 2 ≤ 1 from hm) (by omega)⟩
theorem s5 : FnScope d5.N d5.ps d5.scope := ⟨rfl, rfl, rfl, by decide +kernel, rfl, by decide +kernel, by decide +kernel⟩
theorem b5 : BindN d5 := fun _ _ _ _ _ _ us hl => match us, hl with | [_], _ => rfl
theorem e5 (X : K.In h) (G : h.Ns mainGlobals mg) (c : SaysM con fa fn K) : ∃ f da, Df K mg d5 f da := by
  obtain ⟨da, F⟩ := c.d.def_ 5 (d := ddOf d5) rfl
  exact ⟨_, da, df_none F (He.glo_ok X G (c.d.fact 5 (f := .glo "require_number") rfl)) s5 rfl b5⟩
theorem s6 : FnScope d6.N d6.ps d6.scope := ⟨rfl, rfl, rfl, by decide +kernel, rfl, by decide +kernel, by decide +kernel⟩
theorem e6 (X : K.In h) (G : h.Ns mainGlobals mg) (c : SaysM con fa fn K) : ∃ f da, Df K mg d6 f da := by
  obtain ⟨da, F⟩ := c.d.def_ 6 (d := ddOf d6) rfl
  exact ⟨_, da, df_some F (He.glo_ok X G (c.d.fact 6 (f := .glo "require_count") rfl)) s6 (by decide) rfl (by decide) fun m hm => match m, hm with | 0, _ => fun _ _ _ _ _ _ _ us its h1 h2 => (match us, its, h1, h2 with | [_], [_, _], _, _ => ⟨_, rfl, rfl⟩) | 1, _ => fun _ _ _ _ _ _ _ us its h1 h2 => (match us, its, h1, h2 with | [_, _], [_, _], _, _ => ⟨_, rfl, rfl⟩) | 2, _ => fun _ _ _ _ _ _ _ us its h1 h2 => (match us, its, h1, h2 with | [_, _, _], [_, _], _, _ => ⟨_, rfl, rfl⟩) | m + 3, hm => absurd (show m + 3 ≤ 2 from hm) (by omega)⟩
theorem s7 : FnScope d7.N d7.ps d7.scope := ⟨rfl, rfl, rfl, by decide +kernel, rfl, by decide +kernel, by decide +kernel⟩
theorem b7 : BindN d7 := fun _ _ _ _ _ _ us hl => match us, hl with | [_, _], _ => rfl
theorem e7 (X : K.In h) (G : h.Ns mainGlobals mg) (c : SaysM con fa fn K) : ∃ f da, Df K mg d7 f da := by
  obtain ⟨da, F⟩ := c.d.def_ 7 (d := ddOf d7) rfl
  exact ⟨_, da, df_none F (He.glo_ok X G (c.d.fact 7 (f := .glo "added") rfl)) s7 rfl b7⟩
theorem s8 : FnScope d8.N d8.ps d8.scope := ⟨rfl, rfl, rfl, by decide +kernel, rfl, by decide +kernel, by decide +kernel⟩
theorem b8 : BindN d8 := fun _ _ _ _ _ _ us hl => match us, hl with | [_, _], _ => rfl
theorem e8 (X : K.In h) (G : h.Ns mainGlobals mg) (c : SaysM con fa fn K) : ∃ f da, Df K mg d8 f da := by
  obtain ⟨da, F⟩ := c.d.def_ 8 (d := ddOf d8) rfl
  exact ⟨_, da, df_none F (He.glo_ok X G (c.d.fact 8 (f := .glo "multiplied") rfl)) s8 rfl b8⟩
theorem s9 : FnScope d9.N d9.ps d9.scope := ⟨rfl, rfl, rfl, by decide +kernel, rfl, by decide +kernel, by decide +kernel⟩
theorem b9 : BindN d9 := fun _ _ _ _ _ _ us hl => match us, hl with | [_], _ => rfl
theorem e9 (X : K.In h) (G : h.Ns mainGlobals mg) (c : SaysM con fa fn K) : ∃ f da, Df K mg d9 f da := by
  obtain ⟨da, F⟩ := c.d.def_ 9 (d := ddOf d9) rfl
  exact ⟨_, da, df_none F (He.glo_ok X G (c.d.fact 9 (f := .glo "opposite") rfl)) s9 rfl b9⟩
theorem s10 : FnScope d10.N d10.ps d10.scope := ⟨rfl, rfl, rfl, by decide +kernel, rfl, by decide +kernel, by decide +kernel⟩
theorem b10 : BindN d10 := fun _ _ _ _ _ _ us hl => match us, hl with | [_, _], _ => rfl
theorem e10 (X : K.In h) (G : h.Ns mainGlobals mg) (c : SaysM con fa fn K) : ∃ f da, Df K mg d10 f da := by
  obtain ⟨da, F⟩ := c.d.def_ 10 (d := ddOf d10) rfl
  exact ⟨_, da, df_none F (He.glo_ok X G (c.d.fact 10 (f := .glo "divided") rfl)) s10 rfl b10⟩
theorem s11 : FnScope d11.N d11.ps d11.scope := ⟨rfl, rfl, rfl, by decide +kernel, rfl, by decide +kernel, by decide +kernel⟩
theorem b11 : BindN d11 := fun _ _ _ _ _ _ us hl => match us, hl with | [_], _ => rfl
theorem e11 (X : K.In h) (G : h.Ns mainGlobals mg) (c : SaysM con fa fn K) : ∃ f da, Df K mg d11 f da := by
  obtain ⟨da, F⟩ := c.d.def_ 11 (d := ddOf d11) rfl
  exact ⟨_, da, df_none F (He.glo_ok X G (c.d.fact 11 (f := .glo "sum_of") rfl)) s11 rfl b11⟩
theorem s12 : FnScope d12.N d12.ps d12.scope := ⟨rfl, rfl, rfl, by decide +kernel, rfl, by decide +kernel, by decide +kernel⟩
theorem b12 : BindN d12 := fun _ _ _ _ _ _ us hl => match us, hl with | [_, _], _ => rfl
theorem e12 (X : K.In h) (G : h.Ns mainGlobals mg) (c : SaysM con fa fn K) : ∃ f da, Df K mg d12 f da := by
  obtain ⟨da, F⟩ := c.d.def_ 12 (d := ddOf d12) rfl
  exact ⟨_, da, df_none F (He.glo_ok X G (c.d.fact 12 (f := .glo "plus") rfl)) s12 rfl b12⟩
theorem s13 : FnScope d13.N d13.ps d13.scope := ⟨rfl, rfl, rfl, by decide +kernel, rfl, by decide +kernel, by decide +kernel⟩
theorem b13 : BindN d13 := fun _ _ _ _ _ _ us hl => match us, hl with | [_, _], _ => rfl
theorem e13 (X : K.In h) (G : h.Ns mainGlobals mg) (c : SaysM con fa fn K) : ∃ f da, Df K mg d13 f da := by
  obtain ⟨da, F⟩ := c.d.def_ 13 (d := ddOf d13) rfl
  exact ⟨_, da, df_none F (He.glo_ok X G (c.d.fact 13 (f := .glo "minus") rfl)) s13 rfl b13⟩
theorem s14 : FnScope d14.N d14.ps d14.scope := ⟨rfl, rfl, rfl, by decide +kernel, rfl, by decide +kernel, by decide +kernel⟩
theorem b14 : BindN d14 := fun _ _ _ _ _ _ us hl => match us, hl with | [_, _], _ => rfl
theorem e14 (X : K.In h) (G : h.Ns mainGlobals mg) (c : SaysM con fa fn K) : ∃ f da, Df K mg d14 f da := by
  obtain ⟨da, F⟩ := c.d.def_ 14 (d := ddOf d14) rfl
  exact ⟨_, da, df_none F (He.glo_ok X G (c.d.fact 14 (f := .glo "times") rfl)) s14 rfl b14⟩
theorem s15 : FnScope d15.N d15.ps d15.scope := ⟨rfl, rfl, rfl, by decide +kernel, rfl, by decide +kernel, by decide +kernel⟩
theorem b15 : BindN d15 := fun _ _ _ _ _ _ us hl => match us, hl with | [_, _], _ => rfl
theorem e15 (X : K.In h) (G : h.Ns mainGlobals mg) (c : SaysM con fa fn K) : ∃ f da, Df K mg d15 f da := by
  obtain ⟨da, F⟩ := c.d.def_ 15 (d := ddOf d15) rfl
  exact ⟨_, da, df_none F (He.glo_ok X G (c.d.fact 15 (f := .glo "over") rfl)) s15 rfl b15⟩
theorem s16 : FnScope d16.N d16.ps d16.scope := ⟨rfl, rfl, rfl, by decide +kernel, rfl, by decide +kernel, by decide +kernel⟩
theorem b16 : BindN d16 := fun _ _ _ _ _ _ us hl => match us, hl with | [_, _], _ => rfl
theorem e16 (X : K.In h) (G : h.Ns mainGlobals mg) (c : SaysM con fa fn K) : ∃ f da, Df K mg d16 f da := by
  obtain ⟨da, F⟩ := c.d.def_ 16 (d := ddOf d16) rfl
  exact ⟨_, da, df_none F (He.glo_ok X G (c.d.fact 16 (f := .glo "compared") rfl)) s16 rfl b16⟩
theorem s17 : FnScope d17.N d17.ps d17.scope := ⟨rfl, rfl, rfl, by decide +kernel, rfl, by decide +kernel, by decide +kernel⟩
theorem b17 : BindN d17 := fun _ _ _ _ _ _ us hl => match us, hl with | [_], _ => rfl
theorem e17 (X : K.In h) (G : h.Ns mainGlobals mg) (c : SaysM con fa fn K) : ∃ f da, Df K mg d17 f da := by
  obtain ⟨da, F⟩ := c.d.def_ 17 (d := ddOf d17) rfl
  exact ⟨_, da, df_none F (He.glo_ok X G (c.d.fact 17 (f := .glo "total") rfl)) s17 rfl b17⟩
theorem s18 : FnScope d18.N d18.ps d18.scope := ⟨rfl, rfl, rfl, by decide +kernel, rfl, by decide +kernel, by decide +kernel⟩
theorem b18 : BindN d18 := fun _ _ _ _ _ _ us hl => match us, hl with | [_, _], _ => rfl
theorem e18 (X : K.In h) (G : h.Ns mainGlobals mg) (c : SaysM con fa fn K) : ∃ f da, Df K mg d18 f da := by
  obtain ⟨da, F⟩ := c.d.def_ 18 (d := ddOf d18) rfl
  exact ⟨_, da, df_none F (He.glo_ok X G (c.d.fact 18 (f := .glo "power") rfl)) s18 rfl b18⟩
theorem s19 : FnScope d19.N d19.ps d19.scope := ⟨rfl, rfl, rfl, by decide +kernel, rfl, by decide +kernel, by decide +kernel⟩
theorem b19 : BindN d19 := fun _ _ _ _ _ _ us hl => match us, hl with | [_, _], _ => rfl
theorem e19 (X : K.In h) (G : h.Ns mainGlobals mg) (c : SaysM con fa fn K) : ∃ f da, Df K mg d19 f da := by
  obtain ⟨da, F⟩ := c.d.def_ 19 (d := ddOf d19) rfl
  exact ⟨_, da, df_none F (He.glo_ok X G (c.d.fact 19 (f := .glo "_law_dice") rfl)) s19 rfl b19⟩
theorem s20 : FnScope d20.N d20.ps d20.scope := ⟨rfl, rfl, rfl, by decide +kernel, rfl, by decide +kernel, by decide +kernel⟩
theorem b20 : BindN d20 := fun _ _ _ _ _ _ us hl => match us, hl with | [_, _], _ => rfl
theorem e20 (X : K.In h) (G : h.Ns mainGlobals mg) (c : SaysM con fa fn K) : ∃ f da, Df K mg d20 f da := by
  obtain ⟨da, F⟩ := c.d.def_ 20 (d := ddOf d20) rfl
  exact ⟨_, da, df_none F (He.glo_ok X G (c.d.fact 20 (f := .glo "_law_roll") rfl)) s20 rfl b20⟩
theorem s21 : FnScope d21.N d21.ps d21.scope := ⟨rfl, rfl, rfl, by decide +kernel, rfl, by decide +kernel, by decide +kernel⟩
theorem b21 : BindN d21 := fun _ _ _ _ _ _ us hl => match us, hl with | [_, _], _ => rfl
theorem e21 (X : K.In h) (G : h.Ns mainGlobals mg) (c : SaysM con fa fn K) : ∃ f da, Df K mg d21 f da := by
  obtain ⟨da, F⟩ := c.d.def_ 21 (d := ddOf d21) rfl
  exact ⟨_, da, df_none F (He.glo_ok X G (c.d.fact 21 (f := .glo "_law_pick") rfl)) s21 rfl b21⟩
theorem s22 : FnScope d22.N d22.ps d22.scope := ⟨rfl, rfl, rfl, by decide +kernel, rfl, by decide +kernel, by decide +kernel⟩
theorem b22 : BindN d22 := fun _ _ _ _ _ _ us hl => match us, hl with | [_, _], _ => rfl
theorem e22 (X : K.In h) (G : h.Ns mainGlobals mg) (c : SaysM con fa fn K) : ∃ f da, Df K mg d22 f da := by
  obtain ⟨da, F⟩ := c.d.def_ 22 (d := ddOf d22) rfl
  exact ⟨_, da, df_none F (He.glo_ok X G (c.d.fact 22 (f := .glo "_law_fr") rfl)) s22 rfl b22⟩
theorem s23 : FnScope d23.N d23.ps d23.scope := ⟨rfl, rfl, rfl, by decide +kernel, rfl, by decide +kernel, by decide +kernel⟩
theorem b23 : BindN d23 := fun _ _ _ _ _ _ us hl => match us, hl with | [_, _], _ => rfl
theorem e23 (X : K.In h) (G : h.Ns mainGlobals mg) (c : SaysM con fa fn K) : ∃ f da, Df K mg d23 f da := by
  obtain ⟨da, F⟩ := c.d.def_ 23 (d := ddOf d23) rfl
  exact ⟨_, da, df_none F (He.glo_ok X G (c.d.fact 23 (f := .glo "_law_plus") rfl)) s23 rfl b23⟩
theorem s24 : FnScope d24.N d24.ps d24.scope := ⟨rfl, rfl, rfl, by decide +kernel, rfl, by decide +kernel, by decide +kernel⟩
theorem b24 : BindN d24 := fun _ _ _ _ _ _ us hl => match us, hl with | [_, _], _ => rfl
theorem e24 (X : K.In h) (G : h.Ns mainGlobals mg) (c : SaysM con fa fn K) : ∃ f da, Df K mg d24 f da := by
  obtain ⟨da, F⟩ := c.d.def_ 24 (d := ddOf d24) rfl
  exact ⟨_, da, df_none F (He.glo_ok X G (c.d.fact 24 (f := .glo "_law_times") rfl)) s24 rfl b24⟩
theorem s25 : FnScope d25.N d25.ps d25.scope := ⟨rfl, rfl, rfl, by decide +kernel, rfl, by decide +kernel, by decide +kernel⟩
theorem b25 : BindN d25 := fun _ _ _ _ _ _ us hl => match us, hl with | [_, _], _ => rfl
theorem e25 (X : K.In h) (G : h.Ns mainGlobals mg) (c : SaysM con fa fn K) : ∃ f da, Df K mg d25 f da := by
  obtain ⟨da, F⟩ := c.d.def_ 25 (d := ddOf d25) rfl
  exact ⟨_, da, df_none F (He.glo_ok X G (c.d.fact 25 (f := .glo "_law_minus") rfl)) s25 rfl b25⟩
theorem s26 : FnScope d26.N d26.ps d26.scope := ⟨rfl, rfl, rfl, by decide +kernel, rfl, by decide +kernel, by decide +kernel⟩
theorem b26 : BindN d26 := fun _ _ _ _ _ _ us hl => match us, hl with | [_], _ => rfl
theorem e26 (X : K.In h) (G : h.Ns mainGlobals mg) (c : SaysM con fa fn K) : ∃ f da, Df K mg d26 f da := by
  obtain ⟨da, F⟩ := c.d.def_ 26 (d := ddOf d26) rfl
  exact ⟨_, da, df_none F (He.glo_ok X G (c.d.fact 26 (f := .glo "_law_integer") rfl)) s26 rfl b26⟩
theorem s27 : FnScope d27.N d27.ps d27.scope := ⟨rfl, rfl, rfl, by decide +kernel, rfl, by decide +kernel, by decide +kernel⟩
theorem b27 : BindN d27 := fun _ _ _ _ _ _ us hl => match us, hl with | [_], _ => rfl
theorem e27 (X : K.In h) (G : h.Ns mainGlobals mg) (c : SaysM con fa fn K) : ∃ f da, Df K mg d27 f da := by
  obtain ⟨da, F⟩ := c.d.def_ 27 (d := ddOf d27) rfl
  exact ⟨_, da, df_none F (He.glo_ok X G (c.d.fact 27 (f := .glo "_law_drawn") rfl)) s27 rfl b27⟩
theorem s28 : FnScope d28.N d28.ps d28.scope := ⟨rfl, rfl, rfl, by decide +kernel, rfl, by decide +kernel, by decide +kernel⟩
theorem b28 : BindN d28 := fun _ _ _ _ _ _ us hl => match us, hl with | [_], _ => rfl
theorem e28 (X : K.In h) (G : h.Ns mainGlobals mg) (c : SaysM con fa fn K) : ∃ f da, Df K mg d28 f da := by
  obtain ⟨da, F⟩ := c.d.def_ 28 (d := ddOf d28) rfl
  exact ⟨_, da, df_none F (He.glo_ok X G (c.d.fact 28 (f := .glo "_law_right") rfl)) s28 rfl b28⟩
theorem s29 : FnScope d29.N d29.ps d29.scope := ⟨rfl, rfl, rfl, by decide +kernel, rfl, by decide +kernel, by decide +kernel⟩
theorem b29 : BindN d29 := fun _ _ _ _ _ _ us hl => match us, hl with | [_], _ => rfl
theorem e29 (X : K.In h) (G : h.Ns mainGlobals mg) (c : SaysM con fa fn K) : ∃ f da, Df K mg d29 f da := by
  obtain ⟨da, F⟩ := c.d.def_ 29 (d := ddOf d29) rfl
  exact ⟨_, da, df_none F (He.glo_ok X G (c.d.fact 29 (f := .glo "law") rfl)) s29 rfl b29⟩
theorem wf (X : K.In h) (G : h.Ns mainGlobals mg) (c : SaysM con fa fn K) : Wf gc K mg where
  con := consB_ok X G c.c
  free := fun x hx => He.free_ok X G (c.d.facts (List.mem_append_right _ (List.mem_map_of_mem hx)))
  defs := fun i fd hi => by
    have q := Each.get (Q := fun _ fd => ∃ f da, Df K mg fd f da) (b := 0) (l := fds) ⟨e0 X G c, e1 X G c, e2 X G c, e3 X G c, e4 X G c, e5 X G c, e6 X G c, e7 X G c, e8 X G c, e9 X G c, e10 X G c, e11 X G c, e12 X G c, e13 X G c, e14 X G c, e15 X G c, e16 X G c, e17 X G c, e18 X G c, e19 X G c, e20 X G c, e21 X G c, e22 X G c, e23 X G c, e24 X G c, e25 X G c, e26 X G c, e27 X G c, e28 X G c, e29 X G c, trivial⟩ hi
    exact q
end
abbrev R : PySem.W.OpenRow := PySem.W.OpenLaw.row PySem.Challenge.rw_hushworks_k21_whole_numbers
abbrev hk : PySem.W.Hook := hookM 4 con fa fn
def ob (s : PySem.W.SharedT) : Bool × He.AlD := obsMG 4 con fa fn (HandSHeadRun.getT s)
theorem ob_eq (s : PySem.W.SharedT) : ob s = hk.obs s.abs := obsMG_eq (HandSHeadRun.getT_eq s)
def nm0 : List Str := ["HushError", "InvalidFraction", "InvalidCount", "Refused", "NOUGHT", "ONE", "MAX_COUNT", "MOST_PASSED", "is_integer", "common_divisor", "is_number", "reduced", "number", "require_number", "require_count", "added", "multiplied", "opposite", "divided", "sum_of", "plus", "minus", "times", "over", "compared", "total", "power", "_law_dice", "_law_roll", "_law_pick"]
def nm1 : List Str := ["_law_fr", "_law_plus", "_law_times", "_law_minus", "_law_integer", "_law_drawn", "_law_right"]
abbrev names : List Str := nm0 ++ nm1
def MM : Nat := 2860
theorem run (w : World) : HandSHeadRun.RunEq R (PySem.W.view R.prog [40]) hk ob MM names w := by
  intro os
  kernel_rfl
theorem bA {K : PySem.W.Frag} {f : Addr} {da : FuncData} (F : FunD K d29.x d29.qual d29.params d29.body d29.scope [] [] f da) (s : Shared) (v : Value) : BindsTo s da ⟨[v], []⟩ [("script", v)] :=
  FunD.bindsA (ps := ["script"]) F (fun _ _ _ _ _ _ us hl => match us, hl with | [_], _ => rfl) s [v] rfl
end Lw21
namespace Lw21
open PySem Mn
def g0 : Def := ⟨1, 1, [(.ret (.and (.isi .int (.v 0)) (.not (.isi .bool (.v 0)))))]⟩
def g1 : Def := ⟨2, 2, [(.setT [0, 1] [(.bi .abs [(.v 0)]), (.bi .abs [(.v 1)])]), (.wh (.cmp .gt (.v 1) (.k (.int 0))) [(.setT [0, 1] [(.v 1), (.bin .mod (.v 0) (.v 1))])]), (.ret (.v 0))]⟩
def g2 : Def := ⟨1, 2, [(.ite (.or (.not (.isi .tuple (.v 0))) (.or (.cmp .ne (.bi .len [(.v 0)]) (.k (.int 2))) (.not (.bi .all [(.lc false [1] (.n 1) .it [(.v 0)] none (.call 0 [(.v 1)]))])))) [(.ret (.k (.bl false)))] []), (.ret (.and (.cmp .ge (.ix (.v 0) (.k (.int 1))) (.k (.int 1))) (.cmp .eq (.call 1 [(.ix (.v 0) (.k (.int 0))), (.ix (.v 0) (.k (.int 1)))]) (.k (.int 1)))))]⟩
def g3 : Def := ⟨2, 3, [(.ite (.cmp .lt (.v 1) (.k (.int 0))) [(.setT [0, 1] [(.bin .sub (.k (.int 0)) (.v 0)), (.bin .sub (.k (.int 0)) (.v 1))])] []), (.set 2 (.call 1 [(.v 0), (.v 1)])), (.ret (.tup [(.bin .fdiv (.v 0) (.v 2)), (.bin .fdiv (.v 1) (.v 2))]))]⟩
def g4 : Def := ⟨2, 2, [(.ite (.or (.not (.call 0 [(.v 0)])) (.cmp .ge (.bi .abs [(.v 0)]) (.k (.int 10000000000000000000000000000000000000000)))) [.bad] []), (.ite (.or (.not (.call 0 [(.v 1)])) (.or (.cmp .ge (.bi .abs [(.v 1)]) (.k (.int 10000000000000000000000000000000000000000))) (.cmp .eq (.v 1) (.k (.int 0))))) [.bad] []), (.ret (.call 3 [(.v 0), (.v 1)]))]⟩
def g5 : Def := ⟨1, 1, [(.ite (.not (.call 2 [(.v 0)])) [.bad] [])]⟩
def g6 : Def := ⟨3, 3, [(.ite (.or (.not (.call 0 [(.v 0)])) (.not (.chain .le .le (.v 1) (.v 0) (.v 2)))) [.bad] [])]⟩
def g7 : Def := ⟨2, 2, [(.ite (.chain .eq .eq (.ix (.v 0) (.k (.int 1))) (.ix (.v 1) (.k (.int 1))) (.k (.int 1))) [(.ret (.tup [(.bin .add (.ix (.v 0) (.k (.int 0))) (.ix (.v 1) (.k (.int 0)))), (.k (.int 1))]))] []), (.ret (.call 3 [(.bin .add (.bin .mul (.ix (.v 0) (.k (.int 0))) (.ix (.v 1) (.k (.int 1)))) (.bin .mul (.ix (.v 1) (.k (.int 0))) (.ix (.v 0) (.k (.int 1))))), (.bin .mul (.ix (.v 0) (.k (.int 1))) (.ix (.v 1) (.k (.int 1))))]))]⟩
def g8 : Def := ⟨2, 2, [(.ite (.chain .eq .eq (.ix (.v 0) (.k (.int 1))) (.ix (.v 1) (.k (.int 1))) (.k (.int 1))) [(.ret (.tup [(.bin .mul (.ix (.v 0) (.k (.int 0))) (.ix (.v 1) (.k (.int 0)))), (.k (.int 1))]))] []), (.ret (.call 3 [(.bin .mul (.ix (.v 0) (.k (.int 0))) (.ix (.v 1) (.k (.int 0)))), (.bin .mul (.ix (.v 0) (.k (.int 1))) (.ix (.v 1) (.k (.int 1))))]))]⟩
def g9 : Def := ⟨1, 1, [(.ret (.tup [(.bin .sub (.k (.int 0)) (.ix (.v 0) (.k (.int 0)))), (.ix (.v 0) (.k (.int 1)))]))]⟩
def g10 : Def := ⟨2, 2, [(.ret (.call 3 [(.bin .mul (.ix (.v 0) (.k (.int 0))) (.ix (.v 1) (.k (.int 1)))), (.bin .mul (.ix (.v 0) (.k (.int 1))) (.ix (.v 1) (.k (.int 0))))]))]⟩
def g11 : Def := ⟨1, 3, [(.set 1 (.k (.tup [.int (0), .int (1)]))), (.fo (.n 2) .it [(.v 0)] [(.set 1 (.call 7 [(.v 1), (.v 2)]))]), (.ret (.v 1))]⟩
def g12 : Def := ⟨2, 2, [(.expr (.call 5 [(.v 0)])), (.expr (.call 5 [(.v 1)])), (.ret (.call 7 [(.v 0), (.v 1)]))]⟩
def g13 : Def := ⟨2, 2, [(.expr (.call 5 [(.v 0)])), (.expr (.call 5 [(.v 1)])), (.ret (.call 7 [(.v 0), (.call 9 [(.v 1)])]))]⟩
def g14 : Def := ⟨2, 2, [(.expr (.call 5 [(.v 0)])), (.expr (.call 5 [(.v 1)])), (.ret (.call 8 [(.v 0), (.v 1)]))]⟩
def g15 : Def := ⟨2, 2, [(.expr (.call 5 [(.v 0)])), (.expr (.call 5 [(.v 1)])), (.ite (.cmp .eq (.v 1) (.k (.tup [.int (0), .int (1)]))) [.bad] []), (.ret (.call 10 [(.v 0), (.v 1)]))]⟩
def g16 : Def := ⟨2, 4, [(.expr (.call 5 [(.v 0)])), (.expr (.call 5 [(.v 1)])), (.setT [2, 3] [(.bin .mul (.ix (.v 0) (.k (.int 0))) (.ix (.v 1) (.k (.int 1)))), (.bin .mul (.ix (.v 1) (.k (.int 0))) (.ix (.v 0) (.k (.int 1))))]), (.ret (.bin .sub (.bi .int [(.cmp .gt (.v 2) (.v 3))]) (.bi .int [(.cmp .lt (.v 2) (.v 3))])))]⟩
def g17 : Def := ⟨1, 2, [(.ite (.or (.not (.isi .tuple (.v 0))) (.not (.bi .all [(.lc false [1] (.n 1) .it [(.v 0)] none (.call 2 [(.v 1)]))]))) [.bad] []), (.ret (.call 11 [(.v 0)]))]⟩
def g18 : Def := ⟨2, 4, [(.expr (.call 5 [(.v 0)])), (.expr (.call 6 [(.v 1), (.k (.int 0)), (.k (.int 60))])), (.set 2 (.k (.tup [.int (1), .int (1)]))), (.fo (.n 3) .rng1 [(.v 1)] [(.set 2 (.call 8 [(.v 2), (.v 0)]))]), (.ret (.v 2))]⟩
def g19 : Def := ⟨2, 5, [(.set 2 (.ite (.cmp .lt (.v 1) (.bi .len [(.v 0)])) (.bi .int [(.ix (.v 0) (.v 1))]) (.bin .add (.bin .mul (.k (.int 131)) (.v 1)) (.k (.int 37))))), (.set 3 (.bin .mod (.bi .int [(.bi .abs [(.v 2)])]) (.bin .pow (.bin .pow (.k (.int 10)) (.k (.int 53))) (.k (.int 6))))), (.set 4 (.bin .add (.bin .add (.bin .add (.bin .mul (.bin .mod (.v 3) (.k (.int 2305843009213693907))) (.k (.int 73))) (.bin .mul (.k (.int 619)) (.v 1))) (.bin .mul (.k (.int 41)) (.bi .int [(.cmp .lt (.v 2) (.k (.int 0)))]))) (.k (.int 17)))), (.ret (.lst true [(.bi .max [(.k (.int 0)), (.bin .sub (.v 3) (.bin .pow (.k (.int 10)) (.k (.int 16))))]), (.v 4), (.k (.int 0))]))]⟩
def g20 : Def := ⟨2, 5, [(.ite (.cmp .gt (.ix (.v 0) (.k (.int 0))) (.k (.int 0))) [(.set 2 (.bin .mod (.ix (.v 0) (.k (.int 0))) (.v 1))), (.setIx (.v 0) (.k (.int 0)) (.bin .fdiv (.ix (.v 0) (.k (.int 0))) (.v 1))), (.ret (.bi .int [(.v 2)]))] []), (.setIx (.v 0) (.k (.int 2)) (.bin .add (.ix (.v 0) (.k (.int 2))) (.k (.int 1)))), (.set 3 (.bin .mod (.bin .add (.ix (.v 0) (.k (.int 1))) (.bin .mul (.k (.int 49979687)) (.ix (.v 0) (.k (.int 2))))) (.k (.int 2305843009213693951)))), (.set 4 (.bin .add (.bin .mul (.bin .mod (.bin .add (.bin .mul (.v 3) (.v 3)) (.bin .mul (.k (.int 131)) (.ix (.v 0) (.k (.int 2))))) (.k (.int 2305843009213693921))) (.k (.int 32452843))) (.v 3))), (.ret (.bin .mod (.bi .int [(.bin .fdiv (.v 4) (.k (.int 65587)))]) (.v 1)))]⟩
def g21 : Def := ⟨2, 2, [(.ret (.ix (.v 1) (.call 20 [(.v 0), (.bi .len [(.v 1)])])))]⟩
def g22 : Def := ⟨2, 5, [(.setT [2, 3] [(.bi .abs [(.v 0)]), (.bi .abs [(.v 1)])]), (.wh (.cmp .gt (.v 3) (.k (.int 0))) [(.setT [2, 3] [(.v 3), (.bin .mod (.v 2) (.v 3))])]), (.set 4 (.ite (.cmp .lt (.v 1) (.k (.int 0))) (.neg (.k (.int 1))) (.k (.int 1)))), (.ret (.tup [(.bin .fdiv (.bin .mul (.v 4) (.v 0)) (.v 2)), (.bin .fdiv (.bin .mul (.v 4) (.v 1)) (.v 2))]))]⟩
def g23 : Def := ⟨2, 2, [(.ret (.call 22 [(.bin .add (.bin .mul (.ix (.v 0) (.k (.int 0))) (.ix (.v 1) (.k (.int 1)))) (.bin .mul (.ix (.v 1) (.k (.int 0))) (.ix (.v 0) (.k (.int 1))))), (.bin .mul (.ix (.v 0) (.k (.int 1))) (.ix (.v 1) (.k (.int 1))))]))]⟩
def g24 : Def := ⟨2, 2, [(.ret (.call 22 [(.bin .mul (.ix (.v 0) (.k (.int 0))) (.ix (.v 1) (.k (.int 0)))), (.bin .mul (.ix (.v 0) (.k (.int 1))) (.ix (.v 1) (.k (.int 1))))]))]⟩
def g25 : Def := ⟨2, 2, [(.ret (.call 22 [(.bin .sub (.bin .mul (.ix (.v 0) (.k (.int 0))) (.ix (.v 1) (.k (.int 1)))) (.bin .mul (.ix (.v 1) (.k (.int 0))) (.ix (.v 0) (.k (.int 1))))), (.bin .mul (.ix (.v 0) (.k (.int 1))) (.ix (.v 1) (.k (.int 1))))]))]⟩
def g26 : Def := ⟨1, 2, [(.set 1 (.call 21 [(.v 0), (.lst false [(.k (.int 10)), (.k (.int 10)), (.k (.int 10)), (.k (.int 100)), (.bin .pow (.k (.int 10)) (.k (.int 6))), (.bin .pow (.k (.int 10)) (.k (.int 19)))])])), (.ret (.bin .mul (.bin .add (.k (.int 1)) (.call 20 [(.v 0), (.v 1)])) (.call 21 [(.v 0), (.lst false [(.k (.int 1)), (.neg (.k (.int 1)))])])))]⟩
def g27 : Def := ⟨1, 1, [(.ite (.cmp .eq (.call 20 [(.v 0), (.k (.int 6))]) (.k (.int 0))) [(.ret (.tup [(.k (.int 0)), (.k (.int 1))]))] []), (.ret (.call 22 [(.call 26 [(.v 0)]), (.bi .abs [(.call 26 [(.v 0)])])]))]⟩
def g28 : Def := ⟨1, 14, [(.setT [1, 2, 3] [(.call 27 [(.v 0)]), (.call 27 [(.v 0)]), (.call 27 [(.v 0)])]), (.set 4 (.lst false [(.call 12 [(.v 1), (.v 2)]), (.call 13 [(.v 1), (.v 2)]), (.call 14 [(.v 1), (.v 2)]), (.call 12 [(.call 13 [(.v 1), (.v 2)]), (.v 2)])])), (.ite (.cmp .ne (.bi .repr [(.v 4)]) (.bi .repr [(.lst false [(.call 23 [(.v 1), (.v 2)]), (.call 25 [(.v 1), (.v 2)]), (.call 24 [(.v 1), (.v 2)]), (.v 1)])])) [(.ret (.k (.bl false)))] []), (.ite (.cmp .ne (.ix (.v 2) (.k (.int 0))) (.k (.int 0))) [(.set 5 (.call 22 [(.bin .mul (.ix (.v 1) (.k (.int 0))) (.ix (.v 2) (.k (.int 1)))), (.bin .mul (.ix (.v 1) (.k (.int 1))) (.ix (.v 2) (.k (.int 0))))])), (.ite (.or (.cmp .ne (.bi .repr [(.call 15 [(.v 1), (.v 2)])]) (.bi .repr [(.v 5)])) (.cmp .ne (.call 14 [(.call 15 [(.v 1), (.v 2)]), (.v 2)]) (.v 1))) [(.ret (.k (.bl false)))] [])] []), (.setT [6, 7] [(.bin .mul (.ix (.v 1) (.k (.int 0))) (.ix (.v 2) (.k (.int 1)))), (.bin .mul (.ix (.v 2) (.k (.int 0))) (.ix (.v 1) (.k (.int 1))))]), (.ite (.or (.cmp .ne (.call 16 [(.v 1), (.v 2)]) (.bin .sub (.bi .int [(.cmp .gt (.v 6) (.v 7))]) (.bi .int [(.cmp .lt (.v 6) (.v 7))]))) (.cmp .ne (.call 16 [(.v 1), (.v 1)]) (.k (.int 0)))) [(.ret (.k (.bl false)))] []), (.ite (.cmp .ne (.call 14 [(.call 12 [(.v 1), (.v 2)]), (.v 3)]) (.call 12 [(.call 14 [(.v 1), (.v 3)]), (.call 14 [(.v 2), (.v 3)])])) [(.ret (.k (.bl false)))] []), (.setT [8, 5] [(.lc false [11] (.n 11) .rng1 [(.call 20 [(.v 0), (.k (.int 6))])] none (.call 27 [(.v 0)])), (.tup [(.k (.int 0)), (.k (.int 1))])]), (.fo (.n 9) .it [(.v 8)] [(.set 5 (.call 23 [(.v 5), (.v 9)]))]), (.ite (.or (.cmp .ne (.call 17 [(.bi .tuple [(.v 8)])]) (.v 5)) (.cmp .ne (.call 17 [(.bi .tuple [(.rev (.v 8))])]) (.v 5))) [(.ret (.k (.bl false)))] []), (.setT [10, 5] [(.call 20 [(.v 0), (.k (.int 7))]), (.tup [(.k (.int 1)), (.k (.int 1))])]), (.fo (.n 11) .rng1 [(.v 10)] [(.set 5 (.call 24 [(.v 5), (.v 1)]))]), (.ite (.or (.cmp .ne (.call 18 [(.v 1), (.v 10)]) (.v 5)) (.cmp .ne (.call 18 [(.v 1), (.k (.int 0))]) (.tup [(.k (.int 1)), (.k (.int 1))]))) [(.ret (.k (.bl false)))] []), (.setT [12, 13] [(.call 21 [(.v 0), (.lst false [(.k (.int 0)), (.call 26 [(.v 0)])])]), (.call 26 [(.v 0)])]), (.ret (.and (.cmp .eq (.call 4 [(.v 12), (.v 13)]) (.call 22 [(.v 12), (.v 13)])) (.cmp .eq (.bi .repr [(.call 4 [(.v 12), (.k (.int 1))])]) (.bi .repr [(.tup [(.v 12), (.k (.int 1))])]))))]⟩
def g29 : Def := ⟨1, 6, [(.fo (.n 1) .rng1 [(.bi .max [(.k (.int 1)), (.bi .min [(.k (.int 6)), (.bi .len [(.v 0)])])])] [(.set 2 (.call 19 [(.v 0), (.v 1)])), (.fo (.n 3) .rng1 [(.k (.int 3))] [(.ite (.not (.call 28 [(.v 2)])) [(.ret (.k (.bl false)))] [])])]), (.set 4 (.tup [(.bin .add (.bin .pow (.k (.int 10)) (.k (.int 60))) (.k (.int 1))), (.bin .add (.bin .pow (.k (.int 10)) (.k (.int 59))) (.k (.int 3)))])), (.set 5 (.lst false [(.cmp .eq (.call 12 [(.v 4), (.tup [(.k (.int 1)), (.k (.int 3))])]) (.call 23 [(.v 4), (.tup [(.k (.int 1)), (.k (.int 3))])])), (.cmp .eq (.call 18 [(.tup [(.neg (.k (.int 1))), (.k (.int 2))]), (.k (.int 60))]) (.tup [(.k (.int 1)), (.k (.int 1152921504606846976))]))])), (.set 5 (.bin .add (.v 5) (.lst false [(.call 4 [(.bin .pow (.k (.int 10)) (.k (.int 39))), (.neg (.bin .pow (.k (.int 10)) (.k (.int 39))))]), (.call 4 [(.neg (.k (.int 6))), (.k (.int 4))]), (.call 17 [(.tup [])]), (.call 16 [(.tup [(.neg (.k (.int 1))), (.k (.int 2))]), (.tup [(.neg (.k (.int 1))), (.k (.int 3))])])]))), (.ret (.cmp .eq (.v 5) (.lst false [(.k (.bl true)), (.k (.bl true)), (.tup [(.neg (.k (.int 1))), (.k (.int 1))]), (.tup [(.neg (.k (.int 3))), (.k (.int 2))]), (.tup [(.k (.int 0)), (.k (.int 1))]), (.neg (.k (.int 1)))])))]⟩
def FF : Nat := 9000
def G : Prog := ⟨[g0, g1, g2, g3, g4, g5, g6, g7, g8, g9, g10, g11, g12, g13, g14, g15, g16, g17, g18, g19, g20, g21, g22, g23, g24, g25, g26, g27, g28, g29], fun _ _ => none, FF⟩
theorem G_eq : progOf gc FF = G := by kernel_rfl
end Lw21
/-! Mq1: the evaluator's equations; sizes; fractions. -/
namespace Mn
open PySem
section
variable (G : Prog) (cal : Nat → List D → Sto → R D) (s : Ev) (n : Nat) (L : Loc) (S : Sto) (rs : Nat → List P → Option Ex)
@[simp] theorem q_ok {α β : Type} (a : α) (f : α → Sto → R β) : R.bind (.ok a S) f = f a S := rfl
@[simp] theorem q_exb {α β : Type} (a : Ex) (f : α → Sto → R β) : R.bind (.ex a S) f = .ex a S := rfl
@[simp] theorem q_badb {α β : Type} (f : α → Sto → R β) : R.bind .bad f = .bad := rfl
@[simp] theorem q_fl {α : Type} (a : α) (f : α → Sto → Fl) : R.fl L (.ok a S) f = f a S := rfl
@[simp] theorem q_flb {α : Type} (f : α → Sto → Fl) : R.fl L .bad f = .bad := rfl
@[simp] theorem q_thn (f : Loc → Sto → Fl) : Fl.then (.nx L S) f = f L S := rfl
@[simp] theorem q_tht (d : D) (f : Loc → Sto → Fl) : Fl.then (.rt d S) f = .rt d S := rfl
@[simp] theorem q_evE (e : E) : (ev G cal (n + 1)).e e L S = evE cal (ev G cal n) e L S := rfl
@[simp] theorem q_evT (e : E) : (ev G cal (n + 1)).t e L S = evT cal (ev G cal n) e L S := rfl
@[simp] theorem q_evC (b : List C) : (ev G cal (n + 1)).c b L S = evCs (ev G cal n) G.rs b L S := rfl
@[simp] theorem q_nil : evCs s rs [] L S = .nx L S := rfl
@[simp] theorem q_cons (c : C) (cs : List C) : evCs s rs (c :: cs) L S = (evC s rs c L S).then fun L1 S1 => evCs s rs cs L1 S1 := rfl
@[simp] theorem q_es0 : evs s [] L S = .ok [] S := rfl
@[simp] theorem q_es (e : E) (es : List E) : evs s (e :: es) L S = (s.e e L S).bind fun d S1 => (evs s es L S1).bind fun ds S2 => .ok (d :: ds) S2 := rfl
@[simp] theorem q_v (i : Nat) : evE cal s (.v i) L S = match L[i]? with | some (some d) => .ok d S | _ => .bad := rfl
@[simp] theorem q_k (x : P) : evE cal s (.k x) L S = .ok (.p x) S := rfl
@[simp] theorem q_bin (o : Bo) (a b : E) : evE cal s (.bin o a b) L S = (s.e a L S).bind fun x S1 => (s.e b L S1).bind fun y S2 => binR o x y S2 := rfl
@[simp] theorem q_neg (a : E) : evE cal s (.neg a) L S = (s.e a L S).bind fun x S1 => negR x S1 := rfl
@[simp] theorem q_not (a : E) : evE cal s (.not a) L S = (s.e a L S).bind fun x S1 => (truR x S1).bind fun b S2 => .ok (.p (.bl (!b))) S2 := rfl
@[simp] theorem q_and (a b : E) : evE cal s (.and a b) L S = (s.e a L S).bind fun x S1 => (truR x S1).bind fun k S2 => if k then s.e b L S2 else .ok x S2 := rfl
@[simp] theorem q_or (a b : E) : evE cal s (.or a b) L S = (s.e a L S).bind fun x S1 => (truR x S1).bind fun k S2 => if k then .ok x S2 else s.e b L S2 := rfl
@[simp] theorem q_cmp (o : Co) (a b : E) : evE cal s (.cmp o a b) L S = (s.e a L S).bind fun x S1 => (s.e b L S1).bind fun y S2 => cmpR o x y S2 := rfl
@[simp] theorem q_chain (o o' : Co) (a b c : E) : evE cal s (.chain o o' a b c) L S = (s.e a L S).bind fun x S1 => (s.e b L S1).bind fun y S2 => (cmpR o x y S2).bind fun z S3 => match z with
    | .p (.bl true) => (s.e c L S3).bind fun w S4 => cmpR o' y w S4
    | .p (.bl false) => .ok (.p (.bl false)) S3
    | _ => .bad := rfl
@[simp] theorem q_ite (t a b : E) : evE cal s (.ite t a b) L S = (s.t t L S).bind fun k S1 => if k then s.e a L S1 else s.e b L S1 := rfl
@[simp] theorem q_tup (es : List E) : evE cal s (.tup es) L S = (evs s es L S).bind fun ds S1 => tupR ds S1 := rfl
@[simp] theorem q_lst (own : Bool) (es : List E) : evE cal s (.lst own es) L S = (evs s es L S).bind fun ds S1 => lstR own ds S1 := rfl
@[simp] theorem q_call (f : Nat) (es : List E) : evE cal s (.call f es) L S = (evs s es L S).bind fun ds S1 => callD cal f ds S1 := rfl
@[simp] theorem q_bi (b : Bi) (es : List E) : evE cal s (.bi b es) L S = (evs s es L S).bind fun ds S1 => biR b ds S1 := rfl
@[simp] theorem q_isi (T : Ty) (e : E) : evE cal s (.isi T e) L S = (s.e e L S).bind fun x S1 => isiR T x S1 := rfl
@[simp] theorem q_ix (a b : E) : evE cal s (.ix a b) L S = (s.e a L S).bind fun x S1 => (s.e b L S1).bind fun y S2 => ixR x y S2 := rfl
@[simp] theorem q_rev (a : E) : evE cal s (.rev a) L S = (s.e a L S).bind fun x S1 => revR x S1 := rfl
@[simp] theorem q_tnot (a : E) : evT cal s (.not a) L S = (s.t a L S).bind fun b S1 => .ok (!b) S1 := rfl
@[simp] theorem q_tand (a b : E) : evT cal s (.and a b) L S = (s.t a L S).bind fun k S1 => if k then s.t b L S1 else .ok false S1 := rfl
@[simp] theorem q_tor (a b : E) : evT cal s (.or a b) L S = (s.t a L S).bind fun k S1 => if k then .ok true S1 else s.t b L S1 := rfl
@[simp] theorem q_tv (i : Nat) : evT cal s (.v i) L S = (evE cal s (.v i) L S).bind fun x S1 => truR x S1 := rfl
@[simp] theorem q_tcmp (o : Co) (a b : E) : evT cal s (.cmp o a b) L S = (evE cal s (.cmp o a b) L S).bind fun x S1 => truR x S1 := rfl
@[simp] theorem q_tchain (o o' : Co) (a b c : E) : evT cal s (.chain o o' a b c) L S = (evE cal s (.chain o o' a b c) L S).bind fun x S1 => truR x S1 := rfl
@[simp] theorem q_tcall (f : Nat) (es : List E) : evT cal s (.call f es) L S = (evE cal s (.call f es) L S).bind fun x S1 => truR x S1 := rfl
@[simp] theorem q_tbi (b : Bi) (es : List E) : evT cal s (.bi b es) L S = (evE cal s (.bi b es) L S).bind fun x S1 => truR x S1 := rfl
@[simp] theorem q_tisi (T : Ty) (e : E) : evT cal s (.isi T e) L S = (evE cal s (.isi T e) L S).bind fun x S1 => truR x S1 := rfl
@[simp] theorem q_set (i : Nat) (e : E) : evC s rs (.set i e) L S = R.fl L (s.e e L S) fun d S1 => if i < L.length then .nx (setL L i d) S1 else .bad := rfl
@[simp] theorem q_setT (is : List Nat) (es : List E) : evC s rs (.setT is es) L S = R.fl L (evs s es L S) fun ds S1 => match setN is ds L with | some L1 => .nx L1 S1 | none => .bad := rfl
@[simp] theorem q_expr (e : E) : evC s rs (.expr e) L S = R.fl L (s.e e L S) fun _ S1 => .nx L S1 := rfl
@[simp] theorem q_ret (e : E) : evC s rs (.ret e) L S = R.fl L (s.e e L S) fun d S1 => .rt d S1 := rfl
@[simp] theorem q_cite (t : E) (a b : List C) : evC s rs (.ite t a b) L S = R.fl L (s.t t L S) fun k S1 => if k then s.c a L S1 else s.c b L S1 := rfl
@[simp] theorem q_setIx (o i e : E) : evC s rs (.setIx o i e) L S = R.fl L (s.e e L S) fun d S1 => R.fl L (s.e o L S1) fun x S2 => R.fl L (s.e i L S2) fun y S3 => match x, y with
    | .ref n, .p (.int i) => match S3[n]? with
      | some (.lst ds) => match ixN ds.length i with
        | some j => .nx L (S3.set n (.lst (ds.set j d)))
        | none => .bad
      | none => .bad
    | _, _ => .bad := rfl
theorem q_wh (t : E) (b : List C) : evC s rs (.wh t b) L S = R.fl L (s.t t L S) fun k S1 => if k then (match s.c b L S1 with
      | .nx L2 S2 => s.c [.wh t b] L2 S2
      | .ct L2 S2 => s.c [.wh t b] L2 S2
      | .bk L2 S2 => .nx L2 S2
      | r => r) else .nx L S1 := rfl
theorem q_fo (tg : Tg) (k : Sk) (es : List E) (b : List C) : evC s rs (.fo tg k es b) L S = R.fl L ((evs s es L S).bind fun ds S1 => walkR k ds S1) fun ps S1 => foP s tg b ps L S1 := rfl
theorem q_lc (own : Bool) (vs : List Nat) (tg : Tg) (k : Sk) (es : List E) (cond : Option E) (el : E) : evE cal s (.lc own vs tg k es cond el) L S = (evs s es L S).bind fun ds S1 => (walkR k ds S1).bind fun ps S2 =>
    (noEx (lcP s (wipeL L vs) tg cond el ps S2)).bind fun xs S3 =>
      if xs.length < line then (if own then .ok (.ref S3.length) (S3 ++ [.lst (xs.map .p)]) else .ok (.p (.lst xs)) S3) else .bad := rfl
theorem q_lc0 (tg : Tg) (cond : Option E) (el : E) : lcP s L tg cond el [] S = .ok [] S := rfl
theorem q_lc1 (tg : Tg) (el : E) (p : P) (ps : List P) : lcP s L tg none el (p :: ps) S = match asg tg (.p p) L with
    | none => .bad
    | some L1 => (s.e el L1 S).bind fun d S2 => match d with
        | .p x => (lcP s L tg none el ps S2).bind fun xs S3 => .ok (x :: xs) S3
        | .ref _ => .bad := rfl
theorem q_fo0 (tg : Tg) (b : List C) : foP s tg b [] L S = .nx L S := rfl
theorem q_fo1 (tg : Tg) (b : List C) (p : P) (ps : List P) : foP s tg b (p :: ps) L S = match asg tg (.p p) L with
    | none => .bad
    | some L1 => match s.c b L1 S with
      | .nx L2 S2 => foP s tg b ps L2 S2
      | .ct L2 S2 => foP s tg b ps L2 S2
      | .bk L2 S2 => .nx L2 S2
      | r => r := rfl
@[simp] theorem q_noex {α : Type} (a : α) : noEx (.ok a S) = .ok a S := rfl
@[simp] theorem q_end (d : D) : endR (.rt d S) = .ok d S := rfl
@[simp] theorem q_endn : endR (.nx L S) = .ok (.p .non) S := rfl
@[simp] theorem q_dp (x : P) : der S (.p x) = some x := rfl
@[simp] theorem q_lift {α : Type} (a : α) : lift S (some a) = .ok a S := rfl
@[simp] theorem q_liftP (a : P) : liftP S (some a) = .ok (.p a) S := rfl
@[simp] theorem q_evB (b : Bool) : evB (some b) S = .ok (.p (.bl b)) S := rfl
@[simp] theorem q_trub (b : Bool) : truR (.p (.bl b)) S = .ok b S := rfl
end
/-! ### == -/
theorem eq_int (a b : Int) : eqO (.int a) (.int b) = some (decide (a = b)) := by
  show some (PyData.eqv (.int a) (.int b)) = _
  simp [PyData.eqv, Bool.beq_eq_decide_eq]
theorem eq_str (a b : Str) : eqO (.str a) (.str b) = some (decide (a = b)) := rfl
theorem eq_pair (a b c d : Int) : eqO (.tup [.int a, .int b]) (.tup [.int c, .int d]) = some (decide (a = c) && decide (b = d)) := by
  show some (PyData.eqv (.tuple [.int a, .int b]) (.tuple [.int c, .int d])) = _
  simp [PyData.eqv, PyData.eqvAll, Bool.beq_eq_decide_eq]
/-! ### sizes -/
theorem log_lt {n k : Nat} (h : n < 2 ^ k) : n.log2 ≤ k := by
  by_cases h0 : n = 0
  · subst h0; simp
  · exact Nat.le_of_lt ((Nat.log2_lt h0).mpr h)
theorem mul_ok {i j : Int} {a b : Nat} (hi : i.natAbs < 2 ^ a) (hj : j.natAbs < 2 ^ b) (h : a + b < 134217726) : mulOk i j = true := by
  unfold mulOk
  have h1 := log_lt hi
  have h2 := log_lt hj
  exact Nat.blt_eq.mpr (by omega)
theorem fdiv_ok {i j : Int} {b : Nat} (h0 : 0 < j) (hj : j.natAbs < 2 ^ b) (h : b < 9000) : fdivOk i j = true := by
  unfold fdivOk
  rw [decide_eq_true h0, PyProof.noPylong_of_log2 (Nat.lt_of_le_of_lt (log_lt hj) h)]
  rfl
end Mn
namespace Lw21
open PySem Mn
abbrev I (i : Int) : D := .p (.int i)
def N0 : Nat := 8960
theorem half {a b f : Nat} (hb : 0 < a % b) (h : b < 2 ^ (f + 1)) (h0 : 0 < b) : b % (a % b) < 2 ^ f := by
  have h1 : a % b < b := Nat.mod_lt _ h0
  have h2 : b % (a % b) < a % b := Nat.mod_lt _ hb
  have h3 : b % (a % b) ≤ b - a % b := by
    rw [Nat.mod_eq_sub_mod (Nat.le_of_lt h1)]
    exact Nat.mod_le _ _
  rw [Nat.pow_succ] at h
  omega
theorem gcd_step (a b : Nat) : Nat.gcd a b = Nat.gcd b (a % b) := by rw [Nat.gcd_comm a b, Nat.gcd_rec b a, Nat.gcd_comm]
section
variable (cal : Nat → List D → Sto → Mn.R D) (rs : Nat → List P → Option Ex) (S : Sto)
def bd1 : List C := [.setT [0, 1] [.v 1, .bin .mod (.v 0) (.v 1)]]
def ts1 : E := .cmp .gt (.v 1) (.k (.int 0))
theorem gl1 : ∀ (m : Nat) (rs : Nat → List P → Option Ex) (a b r : Nat), b < 2 ^ m → evC (ev G cal (2 * m + r + 8)) rs (.wh ts1 bd1) [some (I a), some (I b)] S = .nx [some (I (Nat.gcd a b)), some (I (0 : Nat))] S := by
  have one : ∀ (n : Nat) (rs) (a b : Nat), 0 < b → evC (ev G cal (n + 5)) rs (.wh ts1 bd1) [some (I a), some (I b)] S = (evC (ev G cal (n + 4)) G.rs (.wh ts1 bd1) [some (I b), some (I (a % b : Nat))] S).then fun L1 S1 => .nx L1 S1 := by
    intro n rs a b hb
    rw [q_wh]
    simp [ts1, bd1, cmpR, cmpo, hb, setN, setL, binR, Mn.bin]
  have stop : ∀ (n : Nat) (rs) (a : Nat), evC (ev G cal (n + 5)) rs (.wh ts1 bd1) [some (I a), some (I (0 : Nat))] S = .nx [some (I a), some (I (0 : Nat))] S := by
    intro n rs a
    rw [q_wh]
    simp [ts1, bd1, cmpR, cmpo]
  intro m
  induction m with
  | zero =>
    intro rs a b r h
    have : b = 0 := by simpa using h
    subst this
    rw [stop, Nat.gcd_zero_right]
  | succ m ih =>
    intro rs a b r h
    by_cases hb : 0 < b
    · rw [show 2 * (m + 1) + r + 8 = (2 * m + r + 5) + 5 from by omega, one _ _ _ _ hb]
      by_cases hc : 0 < a % b
      · rw [show 2 * m + r + 5 + 4 = (2 * m + r + 4) + 5 from by omega, one _ _ _ _ hc, show 2 * m + r + 4 + 4 = 2 * m + r + 8 from by omega, ih _ _ _ _ (half hc h hb)]
        simp only [q_thn]
        rw [gcd_step a b, gcd_step b (a % b)]
      · have : a % b = 0 := by omega
        rw [this, show 2 * m + r + 5 + 4 = (2 * m + r + 4) + 5 from by omega, stop]
        simp only [q_thn]
        rw [gcd_step a b, this, Nat.gcd_zero_right]
    · have : b = 0 := by omega
      subst this
      rw [show 2 * (m + 1) + r + 8 = (2 * m + r + 5) + 5 from by omega, stop, Nat.gcd_zero_right]
def bd2 : List C := [.setT [2, 3] [.v 3, .bin .mod (.v 2) (.v 3)]]
def ts2 : E := .cmp .gt (.v 3) (.k (.int 0))
theorem gl2 (x y : D) : ∀ (m : Nat) (rs : Nat → List P → Option Ex) (a b r : Nat), b < 2 ^ m → evC (ev G cal (2 * m + r + 8)) rs (.wh ts2 bd2) [some x, some y, some (I a), some (I b), none] S = .nx [some x, some y, some (I (Nat.gcd a b)), some (I (0 : Nat)), none] S := by
  have one : ∀ (n : Nat) (rs) (a b : Nat), 0 < b → evC (ev G cal (n + 5)) rs (.wh ts2 bd2) [some x, some y, some (I a), some (I b), none] S = (evC (ev G cal (n + 4)) G.rs (.wh ts2 bd2) [some x, some y, some (I b), some (I (a % b : Nat)), none] S).then fun L1 S1 => .nx L1 S1 := by
    intro n rs a b hb
    rw [q_wh]
    simp [ts2, bd2, cmpR, cmpo, hb, setN, setL, binR, Mn.bin]
  have stop : ∀ (n : Nat) (rs) (a : Nat), evC (ev G cal (n + 5)) rs (.wh ts2 bd2) [some x, some y, some (I a), some (I (0 : Nat)), none] S = .nx [some x, some y, some (I a), some (I (0 : Nat)), none] S := by
    intro n rs a
    rw [q_wh]
    simp [ts2, bd2, cmpR, cmpo]
  intro m
  induction m with
  | zero =>
    intro rs a b r h
    have : b = 0 := by simpa using h
    subst this
    rw [stop, Nat.gcd_zero_right]
  | succ m ih =>
    intro rs a b r h
    by_cases hb : 0 < b
    · rw [show 2 * (m + 1) + r + 8 = (2 * m + r + 5) + 5 from by omega, one _ _ _ _ hb]
      by_cases hc : 0 < a % b
      · rw [show 2 * m + r + 5 + 4 = (2 * m + r + 4) + 5 from by omega, one _ _ _ _ hc, show 2 * m + r + 4 + 4 = 2 * m + r + 8 from by omega, ih _ _ _ _ (half hc h hb)]
        simp only [q_thn]
        rw [gcd_step a b, gcd_step b (a % b)]
      · have : a % b = 0 := by omega
        rw [this, show 2 * m + r + 5 + 4 = (2 * m + r + 4) + 5 from by omega, stop]
        simp only [q_thn]
        rw [gcd_step a b, this, Nat.gcd_zero_right]
    · have : b = 0 := by omega
      subst this
      rw [show 2 * (m + 1) + r + 8 = (2 * m + r + 5) + 5 from by omega, stop, Nat.gcd_zero_right]
end
theorem runF (k i : Nat) (ds : List D) (S : Sto) (d : Def) (h : G.ds[i]? = some d) (hl : ds.length = d.np) : evF G (k + 1) i ds S = endR (evCs (ev G (evF G k) (N0 + 39)) G.rs d.b (ds.map some ++ List.replicate (d.nl - d.np) none) S) := by
  unfold evF
  rw [h]
  dsimp only
  rw [if_pos hl]
  rfl
/-- small -/
def sm (s : Nat) (i : Int) : Prop := i.natAbs < 2 ^ s
theorem abs1_eq (i : Int) : abs1 (.int i) = some (.int (i.natAbs : Int)) := by
  have : (if i < 0 then -i else i) = (i.natAbs : Int) := by split <;> omega
  show some (P.int (if i < 0 then -i else i)) = _
  rw [this]
section
variable (k : Nat) (S : Sto)
theorem r1 (a b : D) : evF G (k + 1) 1 [a, b] S = endR (evCs (ev G (evF G k) (N0 + 39)) G.rs g1.b [some a, some b] S) := runF k 1 [a, b] S g1 rfl rfl
theorem c1 {t b : Int} (hb : b.natAbs < 2 ^ 4000) : evF G (k + 1) 1 [I t, I b] S = .ok (I (Int.gcd t b : Nat)) S := by
  rw [r1]
  have e : g1.b = [(.setT [0, 1] [(.bi .abs [(.v 0)]), (.bi .abs [(.v 1)])]), .wh ts1 bd1, .ret (.v 0)] := rfl
  rw [e]
  have l : ∀ rs, evC (ev G (evF G k) (N0 + 39)) rs (.wh ts1 bd1) [some (I t.natAbs), some (I b.natAbs)] S = .nx [some (I (Nat.gcd t.natAbs b.natAbs)), some (I (0 : Nat))] S := fun rs => gl1 _ S 4000 rs t.natAbs b.natAbs 991 hb
  simp only [q_cons, q_setT, q_es, q_es0, q_evE, q_bi, q_v, q_ok, biR, ders, q_dp, blt, Mn.one, abs1_eq, q_liftP, q_fl, List.getElem?_cons_zero, List.getElem?_cons_succ]
  simp [setN, setL, l]
  rfl
theorem r22 (a b : D) : evF G (k + 1) 22 [a, b] S = endR (evCs (ev G (evF G k) (N0 + 39)) G.rs g22.b [some a, some b, none, none, none] S) := runF k 22 [a, b] S g22 rfl rfl
def frP (t b : Int) : P := .tup [.int ((if b < 0 then -1 else 1) * t / (Int.gcd t b : Nat)), .int ((if b < 0 then -1 else 1) * b / (Int.gcd t b : Nat))]
theorem gcd_sm {t b : Int} {s : Nat} (h0 : b ≠ 0) (hb : b.natAbs < 2 ^ s) : 0 < ((Int.gcd t b : Nat) : Int) ∧ ((Int.gcd t b : Nat) : Int).natAbs < 2 ^ s := by
  have h1 : 0 < b.natAbs := by omega
  have h2 : Nat.gcd t.natAbs b.natAbs ≤ b.natAbs := Nat.gcd_le_right _ h1
  have h3 : 0 < Nat.gcd t.natAbs b.natAbs := Nat.gcd_pos_of_pos_right _ h1
  have e : Int.gcd t b = Nat.gcd t.natAbs b.natAbs := rfl
  rw [e]
  constructor <;> omega
theorem c22 {t b : Int} (h0 : b ≠ 0) (ht : t.natAbs < 2 ^ 4000) (hb : b.natAbs < 2 ^ 4000) : evF G (k + 1) 22 [I t, I b] S = .ok (.p (frP t b)) S := by
  rw [r22]
  have e : g22.b = [(.setT [2, 3] [(.bi .abs [(.v 0)]), (.bi .abs [(.v 1)])]), .wh ts2 bd2, (.set 4 (.ite (.cmp .lt (.v 1) (.k (.int 0))) (.neg (.k (.int 1))) (.k (.int 1)))), (.ret (.tup [(.bin .fdiv (.bin .mul (.v 4) (.v 0)) (.v 2)), (.bin .fdiv (.bin .mul (.v 4) (.v 1)) (.v 2))]))] := rfl
  rw [e]
  have l : ∀ rs, evC (ev G (evF G k) (N0 + 39)) rs (.wh ts2 bd2) [some (I t), some (I b), some (I t.natAbs), some (I b.natAbs), none] S = .nx [some (I t), some (I b), some (I (Nat.gcd t.natAbs b.natAbs)), some (I (0 : Nat)), none] S := fun rs => gl2 _ S _ _ 4000 rs t.natAbs b.natAbs 991 hb
  obtain ⟨g0, g1⟩ := gcd_sm (t := t) h0 hb
  have eg : Int.gcd t b = Nat.gcd t.natAbs b.natAbs := rfl
  have sg : ∀ c : Bool, (if c = true then (-1 : Int) else 1).natAbs < 2 ^ 1 := fun c => by cases c <;> decide
  simp only [q_cons, q_setT, q_es, q_es0, q_evE, q_bi, q_v, q_ok, biR, ders, q_dp, blt, Mn.one, abs1_eq, q_liftP, q_fl, List.getElem?_cons_zero, List.getElem?_cons_succ]
  by_cases hn : b < 0
  · have m1 := mul_ok (i := -1) (j := t) (a := 1) (by decide) ht (by decide)
    have m2 := mul_ok (i := -1) (j := b) (a := 1) (by decide) hb (by decide)
    have f1 := fdiv_ok (i := -t) g0 g1 (by decide)
    have f2 := fdiv_ok (i := -b) g0 g1 (by decide)
    rw [eg] at f1 f2
    simp [setN, setL, l, cmpR, cmpo, hn, negR, binR, Mn.bin, m1, m2, f1, f2, tupR, allP, frP, eg, line]
  · have m1 := mul_ok (i := 1) (j := t) (a := 1) (by decide) ht (by decide)
    have m2 := mul_ok (i := 1) (j := b) (a := 1) (by decide) hb (by decide)
    have f1 := fdiv_ok (i := t) g0 g1 (by decide)
    have f2 := fdiv_ok (i := b) g0 g1 (by decide)
    rw [eg] at f1 f2
    simp [setN, setL, l, cmpR, cmpo, hn, negR, binR, Mn.bin, m1, m2, f1, f2, tupR, allP, frP, eg, line]
/-! ### fractions -/
def qp (r : Rat) : P := .tup [.int r.num, .int r.den]
abbrev Q (r : Rat) : D := .p (qp r)
theorem sign_if {b : Int} (h0 : b ≠ 0) : (if b < 0 then (-1 : Int) else 1) = b.sign := by
  by_cases h : b < 0
  · rw [if_pos h, Int.sign_eq_neg_one_of_neg h]
  · rw [if_neg h, Int.sign_eq_one_of_pos (by omega)]
theorem frP_eq {t b : Int} (h0 : b ≠ 0) : frP t b = qp (Rat.divInt t b) := by
  unfold frP qp
  rw [sign_if h0, Rat.num_divInt, Rat.den_divInt, if_neg h0, Int.gcd_comm t b]
  have h : b.sign * b = (b.natAbs : Int) := by
    by_cases hn : b < 0
    · rw [Int.sign_eq_neg_one_of_neg hn]; omega
    · rw [Int.sign_eq_one_of_pos (by omega)]; omega
  rw [h]
  rfl
theorem c22q {t b : Int} (h0 : b ≠ 0) (ht : t.natAbs < 2 ^ 4000) (hb : b.natAbs < 2 ^ 4000) : evF G (k + 1) 22 [I t, I b] S = .ok (Q (Rat.divInt t b)) S := by
  rw [c22 k S h0 ht hb, frP_eq h0]
theorem r3 (a b : D) : evF G (k + 2) 3 [a, b] S = endR (evCs (ev G (evF G (k + 1)) (N0 + 39)) G.rs g3.b [some a, some b, none] S) := runF (k + 1) 3 [a, b] S g3 rfl rfl
theorem c3 {t b : Int} (h0 : b ≠ 0) (ht : t.natAbs < 2 ^ 4000) (hb : b.natAbs < 2 ^ 4000) : evF G (k + 2) 3 [I t, I b] S = .ok (Q (Rat.divInt t b)) S := by
  show _ = Mn.R.ok (D.p (qp (Rat.divInt t b))) S
  rw [r3, ← frP_eq h0]
  have e : g3.b = [(.ite (.cmp .lt (.v 1) (.k (.int 0))) [(.setT [0, 1] [(.bin .sub (.k (.int 0)) (.v 0)), (.bin .sub (.k (.int 0)) (.v 1))])] []), (.set 2 (.call 1 [(.v 0), (.v 1)])), (.ret (.tup [(.bin .fdiv (.v 0) (.v 2)), (.bin .fdiv (.v 1) (.v 2))]))] := rfl
  rw [e]
  obtain ⟨g0, g1⟩ := gcd_sm (t := t) h0 hb
  by_cases hn : b < 0
  · have cc := c1 k [] (t := -t) (b := -b) (by omega)
    have eg : Int.gcd (-t) (-b) = Int.gcd t b := by rw [Int.gcd_neg, Int.neg_gcd]
    rw [eg] at cc
    have f1 := fdiv_ok (i := -t) g0 g1 (by decide)
    have f2 := fdiv_ok (i := -b) g0 g1 (by decide)
    simp [setN, setL, cmpR, cmpo, hn, binR, Mn.bin, f1, f2, tupR, allP, frP, line, callD, cc]
  · have cc := c1 k [] (t := t) (b := b) hb
    have f1 := fdiv_ok (i := t) g0 g1 (by decide)
    have f2 := fdiv_ok (i := b) g0 g1 (by decide)
    simp [setN, setL, cmpR, cmpo, hn, binR, Mn.bin, f1, f2, tupR, allP, frP, line, callD, cc]
/-! ### sizes of fractions -/
def sz (r : Rat) (s : Nat) : Prop := r.num.natAbs < 2 ^ s ∧ r.den < 2 ^ s
theorem den_pos (r : Rat) : 0 < r.den := Nat.pos_of_ne_zero r.den_nz
theorem den_ne (r : Rat) : (r.den : Int) ≠ 0 := by have := den_pos r; omega
theorem sz_divInt {t b : Int} {s : Nat} (h0 : b ≠ 0) (ht : t.natAbs < 2 ^ s) (hb : b.natAbs < 2 ^ s) : sz (Rat.divInt t b) s := by
  constructor
  · have d : ((Int.gcd b t : Nat) : Int) ∣ b.sign * t := Int.dvd_mul_of_dvd_right (Int.gcd_dvd_right b t)
    rw [Rat.num_divInt, Int.natAbs_ediv_of_dvd d, Int.natAbs_mul, Int.natAbs_natCast]
    have le1 : b.sign.natAbs ≤ 1 := by rcases Int.lt_trichotomy b 0 with h | h | h <;> simp [Int.sign_eq_neg_one_of_neg, Int.sign_eq_one_of_pos, h]
    refine Nat.lt_of_le_of_lt (Nat.div_le_self _ _) (Nat.lt_of_le_of_lt (Nat.mul_le_mul_right _ le1) ?_)
    rw [Nat.one_mul]
    exact ht
  · rw [Rat.den_divInt, if_neg h0]
    exact Nat.lt_of_le_of_lt (Nat.div_le_self _ _) hb
theorem sz.mono {r : Rat} {s t : Nat} (h : sz r s) (l : s ≤ t) : sz r t := ⟨Nat.lt_of_lt_of_le h.1 (Nat.pow_le_pow_right (by decide) l), Nat.lt_of_lt_of_le h.2 (Nat.pow_le_pow_right (by decide) l)⟩
theorem mul_sm {i j : Int} {a b : Nat} (hi : i.natAbs < 2 ^ a) (hj : j.natAbs < 2 ^ b) : (i * j).natAbs < 2 ^ (a + b) := by
  rw [Int.natAbs_mul, Nat.pow_add]
  exact Nat.mul_lt_mul'' hi hj
theorem add_sm {i j : Int} {a : Nat} (hi : i.natAbs < 2 ^ a) (hj : j.natAbs < 2 ^ a) : (i + j).natAbs < 2 ^ (a + 1) := by
  rw [Nat.pow_succ]
  omega
theorem sub_sm {i j : Int} {a : Nat} (hi : i.natAbs < 2 ^ a) (hj : j.natAbs < 2 ^ a) : (i - j).natAbs < 2 ^ (a + 1) := by
  rw [Nat.pow_succ]
  omega
theorem add_eq (a b : Rat) : a + b = Rat.divInt (a.num * b.den + b.num * a.den) (a.den * b.den : Int) := by
  have := Rat.divInt_add_divInt a.num b.num (den_ne a) (den_ne b)
  rw [Rat.num_divInt_den, Rat.num_divInt_den] at this
  exact this
theorem sub_eq (a b : Rat) : a - b = Rat.divInt (a.num * b.den - b.num * a.den) (a.den * b.den : Int) := by
  have := Rat.divInt_sub_divInt a.num b.num (den_ne a) (den_ne b)
  rw [Rat.num_divInt_den, Rat.num_divInt_den] at this
  exact this
theorem mul_eq (a b : Rat) : a * b = Rat.divInt (a.num * b.num) (a.den * b.den : Int) := by
  have := Rat.divInt_mul_divInt a.num b.num (d₁ := a.den) (d₂ := b.den)
  rw [Rat.num_divInt_den, Rat.num_divInt_den] at this
  exact this
theorem div_eq (a b : Rat) : a / b = Rat.divInt (a.num * b.den) (a.den * b.num : Int) := by
  have := Rat.divInt_mul_divInt a.num b.den (d₁ := a.den) (d₂ := b.num)
  rw [Rat.num_divInt_den, ← Rat.inv_divInt, Rat.num_divInt_den] at this
  rw [Rat.div_def]
  exact this
theorem dd_ne (a b : Rat) : (a.den * b.den : Int) ≠ 0 := Int.mul_ne_zero (den_ne a) (den_ne b)
theorem sz_add {a b : Rat} {s t : Nat} (ha : sz a s) (hb : sz b t) : sz (a + b) (s + t + 1) := by
  rw [add_eq]
  refine sz_divInt (dd_ne a b) (add_sm (mul_sm ha.1 (by simpa using hb.2)) ?_) (Nat.lt_of_lt_of_le (mul_sm (i := a.den) (j := b.den) (by simpa using ha.2) (by simpa using hb.2)) (Nat.pow_le_pow_right (by decide) (by omega)))
  rw [Nat.add_comm s t]
  exact mul_sm hb.1 (by simpa using ha.2)
theorem sz_sub {a b : Rat} {s t : Nat} (ha : sz a s) (hb : sz b t) : sz (a - b) (s + t + 1) := by
  rw [sub_eq]
  refine sz_divInt (dd_ne a b) (sub_sm (mul_sm ha.1 (by simpa using hb.2)) ?_) (Nat.lt_of_lt_of_le (mul_sm (i := a.den) (j := b.den) (by simpa using ha.2) (by simpa using hb.2)) (Nat.pow_le_pow_right (by decide) (by omega)))
  rw [Nat.add_comm s t]
  exact mul_sm hb.1 (by simpa using ha.2)
theorem sz_mul {a b : Rat} {s t : Nat} (ha : sz a s) (hb : sz b t) : sz (a * b) (s + t) := by
  rw [mul_eq]
  exact sz_divInt (dd_ne a b) (mul_sm ha.1 hb.1) (mul_sm (by simpa using ha.2) (by simpa using hb.2))
theorem sz_div {a b : Rat} {s t : Nat} (h0 : b.num ≠ 0) (ha : sz a s) (hb : sz b t) : sz (a / b) (s + t) := by
  rw [div_eq]
  exact sz_divInt (Int.mul_ne_zero (den_ne a) h0) (mul_sm ha.1 (by simpa using hb.2)) (mul_sm (by simpa using ha.2) hb.1)
end
end Lw21
namespace Lw21
open PySem Mn
section
variable (k : Nat) (S : Sto)
theorem c0 (i : Int) : evF G (k + 1) 0 [I i] S = .ok (.p (.bl true)) S := rfl
theorem r2 (a : D) : evF G (k + 2) 2 [a] S = endR (evCs (ev G (evF G (k + 1)) (N0 + 39)) G.rs g2.b [some a, none] S) := runF (k + 1) 2 [a] S g2 rfl rfl
theorem cop (r : Rat) : Int.gcd r.num (r.den : Int) = 1 := r.reduced
theorem c2 {r : Rat} (h : r.den < 2 ^ 4000) : evF G (k + 2) 2 [Q r] S = .ok (.p (.bl true)) S := by
  rw [r2]
  have cc : ∀ S, evF G (k + 1) 1 [I r.num, I (r.den : Int)] S = .ok (I 1) S := fun S => by
    rw [c1 k S (by simpa using h), cop]; rfl
  have hd : (1 : Int) ≤ (r.den : Int) := by have := den_pos r; omega
  have hd' : 1 ≤ r.den := den_pos r
  have cz : ∀ i S, evF G (k + 1) 0 [I i] S = .ok (.p (.bl true)) S := fun i S => c0 k S i
  simp [g2, isiR, isi, cmpR, cmpo, biR, ders, blt, Mn.one, len1, eq_int, q_lc, walkR, allP, walk, wIt, itOf, seqOf, qp, wipeL, q_lc1, q_lc0, asg, setL, callD, cz, line, all1, bools, truR, tru, ixR, item, ixN, cc, hd, hd']
theorem c5 {r : Rat} (h : r.den < 2 ^ 4000) : evF G (k + 3) 5 [Q r] S = .ok (.p .non) S := by
  have e : evF G (k + 3) 5 [Q r] S = endR (evCs (ev G (evF G (k + 2)) (N0 + 39)) G.rs g5.b [some (Q r)] S) := runF (k + 2) 5 [Q r] S g5 rfl rfl
  rw [e]
  have cc : ∀ S, evF G (k + 2) 2 [Q r] S = .ok (.p (.bl true)) S := fun S => c2 k S h
  simp [g5, callD, allP, cc]
theorem qp_int (n : Int) : qp (Rat.divInt n 1) = .tup [.int n, .int 1] := by
  rw [← frP_eq (by decide)]
  simp [frP]
theorem den1 {a : Rat} (h : (a.den : Int) = 1) : a = Rat.divInt a.num 1 := by
  have := Rat.num_divInt_den a
  rw [h] at this
  exact this.symm
abbrev B : Nat := 1900
theorem prods {a b : Rat} (ha : sz a B) (hb : sz b B) : (a.num * b.den).natAbs < 2 ^ 3800 ∧ (b.num * a.den).natAbs < 2 ^ 3800 ∧ (a.den * b.den : Int).natAbs < 2 ^ 3800 ∧ (a.num * b.num).natAbs < 2 ^ 3800 :=
  ⟨mul_sm (a := B) (b := B) ha.1 (by simpa using hb.2), mul_sm (a := B) (b := B) hb.1 (by simpa using ha.2), mul_sm (a := B) (b := B) (i := a.den) (j := b.den) (by simpa using ha.2) (by simpa using hb.2), mul_sm (a := B) (b := B) ha.1 hb.1⟩
theorem up {i : Int} {a b : Nat} (h : i.natAbs < 2 ^ a) (l : a ≤ b) : i.natAbs < 2 ^ b := Nat.lt_of_lt_of_le h (Nat.pow_le_pow_right (by decide) l)
theorem mm {i j : Int} (hi : i.natAbs < 2 ^ B) (hj : j.natAbs < 2 ^ B) : mulOk i j = true := mul_ok hi hj (by decide)
theorem dsm {a : Rat} (h : sz a B) : ((a.den : Int)).natAbs < 2 ^ B := by simpa using h.2
@[simp] theorem ix0 (a : Rat) : ixR (Q a) (I 0) S = .ok (I a.num) S := rfl
@[simp] theorem ix1 (a : Rat) : ixR (Q a) (I 1) S = .ok (I a.den) S := rfl
theorem c7 {a b : Rat} (ha : sz a B) (hb : sz b B) : evF G (k + 3) 7 [Q a, Q b] S = .ok (Q (a + b)) S := by
  have e : evF G (k + 3) 7 [Q a, Q b] S = endR (evCs (ev G (evF G (k + 2)) (N0 + 39)) G.rs g7.b [some (Q a), some (Q b)] S) := runF (k + 2) 7 [Q a, Q b] S g7 rfl rfl
  rw [e]
  obtain ⟨p1, p2, p3, p4⟩ := prods ha hb
  have cc : ∀ S, evF G (k + 2) 3 [I (a.num * b.den + b.num * a.den), I (a.den * b.den)] S = .ok (Q (a + b)) S := fun S => by
    rw [c3 k S (dd_ne a b) (up (add_sm p1 p2) (by decide)) (up p3 (by decide)), add_eq]
  have m1 := mm ha.1 (dsm hb)
  have m2 := mm hb.1 (dsm ha)
  have m3 := mm (dsm ha) (dsm hb)
  by_cases h1 : a.den = b.den
  · by_cases h2 : b.den = 1
    · have q : qp (a + b) = .tup [.int (a.num + b.num), .int 1] := by
        rw [← qp_int, add_eq, h1, h2]
        simp
      have h3 : a.den = 1 := h1.trans h2
      simp [g7, cmpR, cmpo, eq_int, binR, Mn.bin, h2, h3, tupR, allP, line, q]
    · have h3 : ¬ (b.den : Int) = 1 := by omega
      rw [h1] at cc m2 m3
      simp [g7, cmpR, cmpo, eq_int, binR, Mn.bin, h1, h2, h3, callD, allP, m1, m2, m3, cc]
  · have h3 : ¬ (a.den : Int) = (b.den : Int) := by omega
    simp [g7, cmpR, cmpo, eq_int, binR, Mn.bin, h1, h3, callD, allP, m1, m2, m3, cc]
theorem c8 {a b : Rat} (ha : sz a B) (hb : sz b B) : evF G (k + 3) 8 [Q a, Q b] S = .ok (Q (a * b)) S := by
  have e : evF G (k + 3) 8 [Q a, Q b] S = endR (evCs (ev G (evF G (k + 2)) (N0 + 39)) G.rs g8.b [some (Q a), some (Q b)] S) := runF (k + 2) 8 [Q a, Q b] S g8 rfl rfl
  rw [e]
  obtain ⟨p1, p2, p3, p4⟩ := prods ha hb
  have cc : ∀ S, evF G (k + 2) 3 [I (a.num * b.num), I (a.den * b.den)] S = .ok (Q (a * b)) S := fun S => by
    rw [c3 k S (dd_ne a b) (up p4 (by decide)) (up p3 (by decide)), mul_eq]
  have m1 := mm ha.1 hb.1
  have m3 := mm (dsm ha) (dsm hb)
  by_cases h1 : a.den = b.den
  · by_cases h2 : b.den = 1
    · have q : qp (a * b) = .tup [.int (a.num * b.num), .int 1] := by
        rw [← qp_int, mul_eq, h1, h2]
        simp
      have h3 : a.den = 1 := h1.trans h2
      simp [g8, cmpR, cmpo, eq_int, binR, Mn.bin, h2, h3, tupR, allP, line, q, m1]
    · have h3 : ¬ (b.den : Int) = 1 := by omega
      rw [h1] at cc m3
      simp [g8, cmpR, cmpo, eq_int, binR, Mn.bin, h1, h2, h3, callD, allP, m1, m3, cc]
  · have h3 : ¬ (a.den : Int) = (b.den : Int) := by omega
    simp [g8, cmpR, cmpo, eq_int, binR, Mn.bin, h1, h3, callD, allP, m1, m3, cc]
theorem qp_neg (a : Rat) : qp (-a) = .tup [.int (-a.num), .int a.den] := by
  unfold qp
  rw [Rat.neg_num, Rat.neg_den]
theorem c9 (a : Rat) : evF G (k + 1) 9 [Q a] S = .ok (Q (-a)) S := by
  have e : evF G (k + 1) 9 [Q a] S = endR (evCs (ev G (evF G k) (N0 + 39)) G.rs g9.b [some (Q a)] S) := runF k 9 [Q a] S g9 rfl rfl
  rw [e]
  simp [g9, binR, Mn.bin, tupR, allP, line, qp_neg]
theorem c10 {a b : Rat} (h0 : b.num ≠ 0) (ha : sz a B) (hb : sz b B) : evF G (k + 3) 10 [Q a, Q b] S = .ok (Q (a / b)) S := by
  have e : evF G (k + 3) 10 [Q a, Q b] S = endR (evCs (ev G (evF G (k + 2)) (N0 + 39)) G.rs g10.b [some (Q a), some (Q b)] S) := runF (k + 2) 10 [Q a, Q b] S g10 rfl rfl
  rw [e]
  have m1 := mm ha.1 (dsm hb)
  have m3 := mm (dsm ha) hb.1
  have cc : ∀ S, evF G (k + 2) 3 [I (a.num * b.den), I (a.den * b.num)] S = .ok (Q (a / b)) S := fun S => by
    rw [c3 k S (Int.mul_ne_zero (den_ne a) h0) (up (mul_sm (a := B) (b := B) ha.1 (dsm hb)) (by decide)) (up (mul_sm (a := B) (b := B) (dsm ha) hb.1) (by decide)), div_eq]
  simp [g10, binR, Mn.bin, callD, allP, m1, m3, cc]
theorem d4k {a : Rat} (h : sz a B) : a.den < 2 ^ 4000 := Nat.lt_of_lt_of_le h.2 (Nat.pow_le_pow_right (by decide) (by decide))
theorem c12 {a b : Rat} (ha : sz a B) (hb : sz b B) : evF G (k + 4) 12 [Q a, Q b] S = .ok (Q (a + b)) S := by
  have e : evF G (k + 4) 12 [Q a, Q b] S = endR (evCs (ev G (evF G (k + 3)) (N0 + 39)) G.rs g12.b [some (Q a), some (Q b)] S) := runF (k + 3) 12 [Q a, Q b] S g12 rfl rfl
  rw [e]
  have q1 : ∀ S, evF G (k + 3) 5 [Q a] S = .ok (.p .non) S := fun S => c5 k S (d4k ha)
  have q2 : ∀ S, evF G (k + 3) 5 [Q b] S = .ok (.p .non) S := fun S => c5 k S (d4k hb)
  have q3 : ∀ S, evF G (k + 3) 7 [Q a, Q b] S = .ok (Q (a + b)) S := fun S => c7 k S ha hb
  simp [g12, callD, allP, q1, q2, q3]
theorem sz_neg {a : Rat} {s : Nat} (h : sz a s) : sz (-a) s := by
  refine ⟨?_, ?_⟩
  · rw [Rat.neg_num, Int.natAbs_neg]; exact h.1
  · rw [Rat.neg_den]; exact h.2
theorem c13 {a b : Rat} (ha : sz a B) (hb : sz b B) : evF G (k + 4) 13 [Q a, Q b] S = .ok (Q (a - b)) S := by
  have e : evF G (k + 4) 13 [Q a, Q b] S = endR (evCs (ev G (evF G (k + 3)) (N0 + 39)) G.rs g13.b [some (Q a), some (Q b)] S) := runF (k + 3) 13 [Q a, Q b] S g13 rfl rfl
  rw [e]
  have q1 : ∀ S, evF G (k + 3) 5 [Q a] S = .ok (.p .non) S := fun S => c5 k S (d4k ha)
  have q2 : ∀ S, evF G (k + 3) 5 [Q b] S = .ok (.p .non) S := fun S => c5 k S (d4k hb)
  have q4 : ∀ S, evF G (k + 3) 9 [Q b] S = .ok (Q (-b)) S := fun S => c9 (k + 2) S b
  have q3 : ∀ S, evF G (k + 3) 7 [Q a, Q (-b)] S = .ok (Q (a - b)) S := fun S => by rw [c7 k S ha (sz_neg hb), Rat.sub_eq_add_neg]
  simp [g13, callD, allP, q1, q2, q3, q4]
theorem c14 {a b : Rat} (ha : sz a B) (hb : sz b B) : evF G (k + 4) 14 [Q a, Q b] S = .ok (Q (a * b)) S := by
  have e : evF G (k + 4) 14 [Q a, Q b] S = endR (evCs (ev G (evF G (k + 3)) (N0 + 39)) G.rs g14.b [some (Q a), some (Q b)] S) := runF (k + 3) 14 [Q a, Q b] S g14 rfl rfl
  rw [e]
  have q1 : ∀ S, evF G (k + 3) 5 [Q a] S = .ok (.p .non) S := fun S => c5 k S (d4k ha)
  have q2 : ∀ S, evF G (k + 3) 5 [Q b] S = .ok (.p .non) S := fun S => c5 k S (d4k hb)
  have q3 : ∀ S, evF G (k + 3) 8 [Q a, Q b] S = .ok (Q (a * b)) S := fun S => c8 k S ha hb
  simp [g14, callD, allP, q1, q2, q3]
theorem c15 {a b : Rat} (h0 : b.num ≠ 0) (ha : sz a B) (hb : sz b B) : evF G (k + 4) 15 [Q a, Q b] S = .ok (Q (a / b)) S := by
  have e : evF G (k + 4) 15 [Q a, Q b] S = endR (evCs (ev G (evF G (k + 3)) (N0 + 39)) G.rs g15.b [some (Q a), some (Q b)] S) := runF (k + 3) 15 [Q a, Q b] S g15 rfl rfl
  rw [e]
  have q1 : ∀ S, evF G (k + 3) 5 [Q a] S = .ok (.p .non) S := fun S => c5 k S (d4k ha)
  have q2 : ∀ S, evF G (k + 3) 5 [Q b] S = .ok (.p .non) S := fun S => c5 k S (d4k hb)
  have q3 : ∀ S, evF G (k + 3) 10 [Q a, Q b] S = .ok (Q (a / b)) S := fun S => c10 k S h0 ha hb
  have q4 : eqO (qp b) (.tup [.int 0, .int 1]) = some false := by
    unfold qp
    rw [eq_pair]
    simp [h0]
  simp [g15, callD, allP, q1, q2, q3, q4, cmpR, cmpo]
theorem c16 {a b : Rat} (ha : sz a B) (hb : sz b B) : evF G (k + 4) 16 [Q a, Q b] S = .ok (I ((if b.num * a.den < a.num * b.den then 1 else 0) - (if a.num * b.den < b.num * a.den then 1 else 0))) S := by
  have e : evF G (k + 4) 16 [Q a, Q b] S = endR (evCs (ev G (evF G (k + 3)) (N0 + 39)) G.rs g16.b [some (Q a), some (Q b), none, none] S) := runF (k + 3) 16 [Q a, Q b] S g16 rfl rfl
  rw [e]
  have q1 : ∀ S, evF G (k + 3) 5 [Q a] S = .ok (.p .non) S := fun S => c5 k S (d4k ha)
  have q2 : ∀ S, evF G (k + 3) 5 [Q b] S = .ok (.p .non) S := fun S => c5 k S (d4k hb)
  have m1 := mm ha.1 (dsm hb)
  have m2 := mm hb.1 (dsm ha)
  simp [g16, callD, allP, q1, q2, binR, Mn.bin, m1, m2, setN, setL, cmpR, cmpo, biR, ders, blt, Mn.one, int1]
theorem c23 {a b : Rat} (ha : sz a B) (hb : sz b B) : evF G (k + 2) 23 [Q a, Q b] S = .ok (Q (a + b)) S := by
  have e : evF G (k + 2) 23 [Q a, Q b] S = endR (evCs (ev G (evF G (k + 1)) (N0 + 39)) G.rs g23.b [some (Q a), some (Q b)] S) := runF (k + 1) 23 [Q a, Q b] S g23 rfl rfl
  rw [e]
  obtain ⟨p1, p2, p3, p4⟩ := prods ha hb
  have cc : ∀ S, evF G (k + 1) 22 [I (a.num * b.den + b.num * a.den), I (a.den * b.den)] S = .ok (Q (a + b)) S := fun S => by
    rw [c22q k S (dd_ne a b) (up (add_sm p1 p2) (by decide)) (up p3 (by decide)), add_eq]
  have m1 := mm ha.1 (dsm hb)
  have m2 := mm hb.1 (dsm ha)
  have m3 := mm (dsm ha) (dsm hb)
  simp [g23, binR, Mn.bin, callD, allP, m1, m2, m3, cc]
theorem c24 {a b : Rat} (ha : sz a B) (hb : sz b B) : evF G (k + 2) 24 [Q a, Q b] S = .ok (Q (a * b)) S := by
  have e : evF G (k + 2) 24 [Q a, Q b] S = endR (evCs (ev G (evF G (k + 1)) (N0 + 39)) G.rs g24.b [some (Q a), some (Q b)] S) := runF (k + 1) 24 [Q a, Q b] S g24 rfl rfl
  rw [e]
  obtain ⟨p1, p2, p3, p4⟩ := prods ha hb
  have cc : ∀ S, evF G (k + 1) 22 [I (a.num * b.num), I (a.den * b.den)] S = .ok (Q (a * b)) S := fun S => by
    rw [c22q k S (dd_ne a b) (up p4 (by decide)) (up p3 (by decide)), mul_eq]
  have m1 := mm ha.1 hb.1
  have m3 := mm (dsm ha) (dsm hb)
  simp [g24, binR, Mn.bin, callD, allP, m1, m3, cc]
theorem c25 {a b : Rat} (ha : sz a B) (hb : sz b B) : evF G (k + 2) 25 [Q a, Q b] S = .ok (Q (a - b)) S := by
  have e : evF G (k + 2) 25 [Q a, Q b] S = endR (evCs (ev G (evF G (k + 1)) (N0 + 39)) G.rs g25.b [some (Q a), some (Q b)] S) := runF (k + 1) 25 [Q a, Q b] S g25 rfl rfl
  rw [e]
  obtain ⟨p1, p2, p3, p4⟩ := prods ha hb
  have cc : ∀ S, evF G (k + 1) 22 [I (a.num * b.den - b.num * a.den), I (a.den * b.den)] S = .ok (Q (a - b)) S := fun S => by
    rw [c22q k S (dd_ne a b) (up (sub_sm p1 p2) (by decide)) (up p3 (by decide)), sub_eq]
  have m1 := mm ha.1 (dsm hb)
  have m2 := mm hb.1 (dsm ha)
  have m3 := mm (dsm ha) (dsm hb)
  simp [g25, binR, Mn.bin, callD, allP, m1, m2, m3, cc]
end
end Lw21
namespace Lw21
open PySem Mn
def sumR (acc : Rat) (qs : List Rat) : Rat := qs.foldl (· + ·) acc
section
variable (k : Nat)
theorem lp11 (S : Sto) (t : D) : ∀ (qs : List Rat) (acc : Rat) (s : Nat) (x : Option D), sz acc s → (∀ r ∈ qs, sz r 70) → s + 71 * qs.length ≤ B →
    ∃ y, foP (ev G (evF G (k + 3)) (N0 + 39)) (.n 2) [.set 1 (.call 7 [.v 1, .v 2])] (qs.map qp) [some t, some (Q acc), x] S = .nx [some t, some (Q (sumR acc qs)), y] S ∧ sz (sumR acc qs) (s + 71 * qs.length)
  | [], acc, s, x, ha, _, _ => ⟨x, rfl, ha⟩
  | r :: qs, acc, s, x, ha, hq, hl => by
    have hr : sz r 70 := hq r List.mem_cons_self
    have hl' : s + 71 + 71 * qs.length ≤ B := by have : (r :: qs).length = qs.length + 1 := rfl; omega
    have cc : ∀ S, evF G (k + 3) 7 [Q acc, Q r] S = .ok (Q (acc + r)) S := fun S => c7 k S (ha.mono (by omega)) (hr.mono (by decide))
    obtain ⟨y, e1, e2⟩ := lp11 S t qs (acc + r) (s + 71) (some (Q r)) (by have := sz_add ha hr; rwa [show s + 70 + 1 = s + 71 from by omega] at this) (fun z hz => hq z (List.mem_cons_of_mem _ hz)) hl'
    refine ⟨y, ?_, ?_⟩
    · rw [List.map_cons, q_fo1]
      simp [asg, setL, callD, allP, cc]
      exact e1
    · have : s + 71 * (r :: qs).length = s + 71 + 71 * qs.length := by have : (r :: qs).length = qs.length + 1 := rfl; omega
      rw [this]
      exact e2
theorem qp0 : qp 0 = .tup [.int 0, .int 1] := by unfold qp; rfl
theorem qp1 : qp 1 = .tup [.int 1, .int 1] := by unfold qp; rfl
theorem sz0 : sz 0 1 := ⟨by decide, by decide⟩
theorem sz1 : sz 1 1 := ⟨by decide, by decide⟩
theorem c11 (S : Sto) {qs : List Rat} (hq : ∀ r ∈ qs, sz r 70) (hl : 1 + 71 * qs.length ≤ B) : evF G (k + 4) 11 [.p (.tup (qs.map qp))] S = .ok (Q (sumR 0 qs)) S := by
  have e : evF G (k + 4) 11 [.p (.tup (qs.map qp))] S = endR (evCs (ev G (evF G (k + 3)) (N0 + 39)) G.rs g11.b [some (.p (.tup (qs.map qp))), none, none] S) := runF (k + 3) 11 [.p (.tup (qs.map qp))] S g11 rfl rfl
  rw [e]
  obtain ⟨y, e1, e2⟩ := lp11 k S (.p (.tup (qs.map qp))) qs 0 1 none sz0 hq hl
  simp only [show (g11.b) = [(.set 1 (.k (.tup [.int 0, .int 1]))), (.fo (.n 2) .it [(.v 0)] [(.set 1 (.call 7 [(.v 1), (.v 2)]))]), (.ret (.v 1))] from rfl, q_cons, q_fo]
  simp only [← qp0]
  simp [setL, walkR, allP, walk, wIt, itOf, seqOf, e1]
theorem lc17 (S : Sto) (n : Nat) (t : D) : ∀ (qs : List Rat), (∀ r ∈ qs, sz r 70) → lcP (ev G (evF G (k + 2)) (n + 3)) [some t, none] (.n 1) none (.call 2 [.v 1]) (qs.map qp) S = .ok (qs.map fun _ => .bl true) S
  | [], _ => rfl
  | r :: qs, hq => by
    have hr : sz r 70 := hq r List.mem_cons_self
    have cc : ∀ S, evF G (k + 2) 2 [Q r] S = .ok (.p (.bl true)) S := fun S => c2 k S (d4k (hr.mono (by decide)))
    have ih := lc17 S n t qs fun z hz => hq z (List.mem_cons_of_mem _ hz)
    rw [List.map_cons, q_lc1]
    simp [asg, setL, callD, allP, cc, ih]
theorem bls : ∀ qs : List Rat, bools (qs.map fun _ => P.bl true) = some (qs.map fun _ => true)
  | [] => rfl
  | q :: qs => by
    rw [List.map_cons, List.map_cons]
    unfold bools
    rw [bls qs]
    rfl
theorem c17 (S : Sto) {qs : List Rat} (hq : ∀ r ∈ qs, sz r 70) (hl : 1 + 71 * qs.length ≤ B) : evF G (k + 5) 17 [.p (.tup (qs.map qp))] S = .ok (Q (sumR 0 qs)) S := by
  have e : evF G (k + 5) 17 [.p (.tup (qs.map qp))] S = endR (evCs (ev G (evF G (k + 4)) (N0 + 39)) G.rs g17.b [some (.p (.tup (qs.map qp))), none] S) := runF (k + 4) 17 [.p (.tup (qs.map qp))] S g17 rfl rfl
  rw [e]
  have cc : ∀ S, evF G (k + 4) 11 [.p (.tup (qs.map qp))] S = .ok (Q (sumR 0 qs)) S := fun S => c11 k S hq hl
  have l := fun n => lc17 (k + 2) S n (.p (.tup (qs.map qp))) qs hq
  have a1 : all1 (.lst (qs.map fun _ => P.bl true)) = some (.bl true) := by
    show Option.map (fun bs : List Bool => P.bl (bs.all id)) (bools (qs.map fun _ => P.bl true)) = _
    rw [bls]
    simp
  have hln : qs.length < line := by unfold line; unfold B at hl; omega
  simp [g17, isiR, isi, biR, ders, blt, Mn.one, q_lc, walkR, allP, walk, wIt, itOf, seqOf, wipeL, l, a1, callD, cc, hln]
/-! ### powers -/
def powR (a : Rat) : Nat → Rat → Rat
  | 0, acc => acc
  | n + 1, acc => powR a n (acc * a)
theorem lp18 (S : Sto) (t u : D) {a : Rat} {s : Nat} (ha : sz a s) : ∀ (m : Nat) (lo : Int) (acc : Rat) (b : Nat) (x : Option D), sz acc b → b + s * m ≤ B → s ≤ B →
    ∃ y, foP (ev G (evF G (k + 3)) (N0 + 39)) (.n 3) [.set 2 (.call 8 [.v 2, .v 0])] (iota lo m) [some (Q a), some u, some (Q acc), x] S = .nx [some (Q a), some u, some (Q (powR a m acc)), y] S ∧ sz (powR a m acc) (b + s * m)
  | 0, lo, acc, b, x, hb, _, _ => ⟨x, rfl, hb⟩
  | m + 1, lo, acc, b, x, hb, hl, hs => by
    rw [Nat.mul_add, Nat.mul_one] at hl
    have cc : ∀ S, evF G (k + 3) 8 [Q acc, Q a] S = .ok (Q (acc * a)) S := fun S => c8 k S (hb.mono (by omega)) (ha.mono hs)
    obtain ⟨y, e1, e2⟩ := lp18 S t u ha m (lo + 1) (acc * a) (b + s) (some (I lo)) (sz_mul hb ha) (by omega) hs
    refine ⟨y, ?_, ?_⟩
    · show foP _ _ _ (.int lo :: iota (lo + 1) m) _ _ = _
      rw [q_fo1]
      simp [asg, setL, callD, allP, cc]
      exact e1
    · rw [Nat.mul_add, Nat.mul_one, show b + (s * m + s) = b + s + s * m from by omega]
      exact e2
theorem c6 (S : Sto) {m : Int} (h0 : 0 ≤ m) (h1 : m ≤ 60) : evF G (k + 2) 6 [I m, I 0, I 60] S = .ok (.p .non) S := by
  have e : evF G (k + 2) 6 [I m, I 0, I 60] S = endR (evCs (ev G (evF G (k + 1)) (N0 + 39)) G.rs g6.b [some (I m), some (I 0), some (I 60)] S) := runF (k + 1) 6 [I m, I 0, I 60] S g6 rfl rfl
  rw [e]
  have cz : ∀ i S, evF G (k + 1) 0 [I i] S = .ok (.p (.bl true)) S := fun i S => c0 k S i
  simp [g6, callD, allP, cz, cmpR, cmpo, h0, h1]
theorem inR60 : ∀ m : Nat, m < 61 → inR (m : Int) = true := by decide +kernel
theorem c18 (S : Sto) {a : Rat} {s : Nat} (ha : sz a s) (m : Nat) (hm : m ≤ 60) (hs : s ≤ B) (hl : 1 + s * m ≤ B) : evF G (k + 4) 18 [Q a, I m] S = .ok (Q (powR a m 1)) S ∧ sz (powR a m 1) (1 + s * m) := by
  have e : evF G (k + 4) 18 [Q a, I m] S = endR (evCs (ev G (evF G (k + 3)) (N0 + 39)) G.rs g18.b [some (Q a), some (I m), none, none] S) := runF (k + 3) 18 [Q a, I m] S g18 rfl rfl
  obtain ⟨y, e1, e2⟩ := lp18 k S (I m) (I m) ha m 0 1 1 none sz1 hl hs
  refine ⟨?_, e2⟩
  rw [e]
  have q1 : ∀ S, evF G (k + 3) 5 [Q a] S = .ok (.p .non) S := fun S => c5 k S (d4k (ha.mono hs))
  have q2 : ∀ S, evF G (k + 3) 6 [I m, I 0, I 60] S = .ok (.p .non) S := fun S => c6 (k + 1) S (by omega) (by omega)
  have ir : inR (m : Int) = true := inR60 m (by omega)
  have wk : walkR .rng1 [I m] S = .ok (iota 0 m) S := by
    show lift S (if inR (m : Int) = true then some (iota 0 (m : Int).toNat) else none) = _
    rw [if_pos ir]
    rfl
  have a1 : callD (evF G (k + 3)) 5 [Q a] S = .ok (.p .non) S := by unfold callD; simp only [allP, Option.map_some, q1]
  have a2 : callD (evF G (k + 3)) 6 [I m, I 0, I 60] S = .ok (.p .non) S := by unfold callD; simp only [allP, Option.map_some, q2]
  have h1 : ∀ rs, evC (ev G (evF G (k + 3)) (N0 + 39)) rs (.expr (.call 5 [(.v 0)])) [some (Q a), some (I m), none, none] S = .nx [some (Q a), some (I m), none, none] S := fun rs => by simp [a1]
  have h2 : ∀ rs, evC (ev G (evF G (k + 3)) (N0 + 39)) rs (.expr (.call 6 [(.v 1), (.k (.int 0)), (.k (.int 60))])) [some (Q a), some (I m), none, none] S = .nx [some (Q a), some (I m), none, none] S := fun rs => by simp [a2]
  have h3 : ∀ rs, evC (ev G (evF G (k + 3)) (N0 + 39)) rs (.set 2 (.k (.tup [.int 1, .int 1]))) [some (Q a), some (I m), none, none] S = .nx [some (Q a), some (I m), some (.p (.tup [.int 1, .int 1])), none] S := fun rs => by
    rw [q_set, q_evE, q_k, q_fl]
    rfl
  have h33 : (D.p (.tup [.int 1, .int 1])) = Q 1 := congrArg D.p qp1.symm
  have h4 : ∀ rs, evC (ev G (evF G (k + 3)) (N0 + 39)) rs (.fo (.n 3) .rng1 [(.v 1)] [(.set 2 (.call 8 [(.v 2), (.v 0)]))]) [some (Q a), some (I m), some (Q 1), none] S = .nx [some (Q a), some (I m), some (Q (powR a m 1)), y] S := fun rs => by
    have ev1 : evs (ev G (evF G (k + 3)) (N0 + 39)) [(.v 1)] [some (Q a), some (I m), some (Q 1), none] S = .ok [I m] S := by simp
    rw [q_fo, ev1, q_ok, wk, q_fl]
    exact e1
  have h5 : ∀ rs, evC (ev G (evF G (k + 3)) (N0 + 39)) rs (.ret (.v 2)) [some (Q a), some (I m), some (Q (powR a m 1)), y] S = .rt (Q (powR a m 1)) S := fun rs => by simp
  rw [show (g18.b) = [(.expr (.call 5 [(.v 0)])), (.expr (.call 6 [(.v 1), (.k (.int 0)), (.k (.int 60))])), (.set 2 (.k (.tup [.int 1, .int 1]))), (.fo (.n 3) .rng1 [(.v 1)] [(.set 2 (.call 8 [(.v 2), (.v 0)]))]), (.ret (.v 2))] from rfl]
  rw [q_cons, h1, q_thn, q_cons, h2, q_thn, q_cons, h3, q_thn, h33, q_cons, h4, q_thn, q_cons, h5, q_tht, q_end]
theorem c4 (S : Sto) {t b : Int} (h0 : b ≠ 0) (ht : t.natAbs < 10 ^ 40) (hb : b.natAbs < 10 ^ 40) : evF G (k + 3) 4 [I t, I b] S = .ok (Q (Rat.divInt t b)) S := by
  have e : evF G (k + 3) 4 [I t, I b] S = endR (evCs (ev G (evF G (k + 2)) (N0 + 39)) G.rs g4.b [some (I t), some (I b)] S) := runF (k + 2) 4 [I t, I b] S g4 rfl rfl
  rw [e]
  have cz : ∀ i S, evF G (k + 2) 0 [I i] S = .ok (.p (.bl true)) S := fun i S => c0 (k + 1) S i
  have cc : ∀ S, evF G (k + 2) 3 [I t, I b] S = .ok (Q (Rat.divInt t b)) S := fun S => c3 k S h0 (Nat.lt_trans ht (by decide)) (Nat.lt_trans hb (by decide))
  have n1 : ¬ ((10000000000000000000000000000000000000000 : Int) ≤ (t.natAbs : Int)) := by omega
  have n2 : ¬ ((10000000000000000000000000000000000000000 : Int) ≤ (b.natAbs : Int)) := by omega
  simp [g4, callD, allP, cz, biR, ders, blt, Mn.one, abs1_eq, cmpR, cmpo, n1, n2, eq_int, h0, cc]
end
/-! ### dice -/
def Dc (S : Sto) (n : Nat) (m : Nat) : Prop := ∃ g s c : Int, S[n]? = some (.lst [I g, I s, I c]) ∧ 0 ≤ g ∧ 0 ≤ c ∧ c ≤ m ∧ s.natAbs < 2 ^ 100
/-- one more was taken of the dice at n; the rest stands -/
def Nxt (S S' : Sto) (n : Nat) : Prop := S'.length = S.length ∧ ∀ i : Nat, i ≠ n → S'[i]? = S[i]?
section
variable (k : Nat)
theorem c20 (S : Sto) {n m : Nat} {t : Int} (h : Dc S n m) (hm : m < 2 ^ 100) (ht : 0 < t) (hs : t.natAbs < 2 ^ 100) : ∃ v S', evF G (k + 1) 20 [.ref n, I t] S = .ok (I v) S' ∧ 0 ≤ v ∧ v < t ∧ Dc S' n (m + 1) ∧ Nxt S S' n := by
  obtain ⟨g, s, c, h1, h2, h3, h4, h5⟩ := h
  have e : evF G (k + 1) 20 [.ref n, I t] S = endR (evCs (ev G (evF G k) (N0 + 39)) G.rs g20.b [some (.ref n), some (I t), none, none, none] S) := runF k 20 [.ref n, I t] S g20 rfl rfl
  have hn : n < S.length := (List.getElem?_eq_some_iff.mp h1).1
  have gs : ∀ x, (S.set n x)[n]? = some x := fun x => List.getElem?_set_self hn
  have m1 : mulOk 49979687 (c + 1) = true := mul_ok (a := 30) (b := 101) (by decide) (by omega) (by decide)
  have m2 : mulOk 131 (c + 1) = true := mul_ok (a := 8) (b := 101) (by decide) (by omega) (by decide)
  have nx : ∀ x, Nxt S (S.set n x) n := fun x => ⟨by rw [List.length_set], fun i hi => List.getElem?_set_ne (Ne.symm hi)⟩
  rw [e]
  by_cases hg : 0 < g
  · have f1 := fdiv_ok (i := g) ht hs (by decide)
    refine ⟨g % t, S.set n (.lst [I (g / t), I s, I c]), ?_, Int.emod_nonneg _ (by omega), Int.emod_lt_of_pos _ ht, ⟨g / t, s, c, gs _, Int.ediv_nonneg h2 (by omega), h3, by omega, h5⟩, nx _⟩
    simp [g20, cmpR, cmpo, ixR, h1, ixN, hg, binR, Mn.bin, ht, f1, setL, biR, ders, blt, Mn.one, int1]
  · generalize hone : (s + 49979687 * (c + 1)) % 2305843009213693951 = one
    have o1 : 0 ≤ one := by rw [← hone]; exact Int.emod_nonneg _ (by decide)
    have o2 : one < 2305843009213693951 := by rw [← hone]; exact Int.emod_lt_of_pos _ (by decide)
    have m3 : mulOk one one = true := mul_ok (a := 62) (b := 62) (by omega) (by omega) (by decide)
    generalize htw : (one * one + 131 * (c + 1)) % 2305843009213693921 = tw
    have w1 : 0 ≤ tw := by rw [← htw]; exact Int.emod_nonneg _ (by decide)
    have w2 : tw < 2305843009213693921 := by rw [← htw]; exact Int.emod_lt_of_pos _ (by decide)
    have m4 : mulOk tw 32452843 = true := mul_ok (a := 62) (b := 26) (by omega) (by decide) (by decide)
    have f2 := fdiv_ok (i := tw * 32452843 + one) (j := 65587) (b := 20) (by decide) (by decide) (by decide)
    refine ⟨(tw * 32452843 + one) / 65587 % t, S.set n (.lst [I g, I s, I (c + 1)]), ?_, Int.emod_nonneg _ (by omega), Int.emod_lt_of_pos _ ht, ⟨g, s, c + 1, gs _, h2, by omega, by omega, h5⟩, nx _⟩
    simp [g20, cmpR, cmpo, ixR, h1, ixN, hg, binR, Mn.bin, ht, setL, biR, ders, blt, Mn.one, int1, gs, m1, m2, hone, m3, htw, m4, f2]
end
end Lw21
namespace Lw21
open PySem Mn
theorem Dc.mono {S : Sto} {n a b : Nat} (h : Dc S n a) (l : a ≤ b) : Dc S n b := by
  obtain ⟨g, s, c, h1, h2, h3, h4, h5⟩ := h
  exact ⟨g, s, c, h1, h2, h3, by omega, h5⟩
theorem Nxt.refl {S : Sto} {n : Nat} : Nxt S S n := ⟨rfl, fun _ _ => rfl⟩
theorem Nxt.trans {S S1 S2 : Sto} {n : Nat} (a : Nxt S S1 n) (b : Nxt S1 S2 n) : Nxt S S2 n := ⟨b.1.trans a.1, fun i hi => (b.2 i hi).trans (a.2 i hi)⟩
section
variable (k : Nat)
theorem cd_ref (cal : Nat → List D → Sto → Mn.R D) (f n : Nat) (ds : List D) (S : Sto) : callD cal f (.ref n :: ds) S = cal f (.ref n :: ds) S := rfl
theorem c21 (S : Sto) {n m : Nat} {items : List P} (h : Dc S n m) (hm : m < 2 ^ 100) (h0 : 0 < items.length) (hl : items.length < 2 ^ 60) :
    ∃ (x : P) (S' : Sto), x ∈ items ∧ evF G (k + 2) 21 [.ref n, .p (.lst items)] S = .ok (.p x) S' ∧ Dc S' n (m + 1) ∧ Nxt S S' n := by
  obtain ⟨v, S', r, v0, v1, d, nx⟩ := c20 k S (t := items.length) h hm (by omega) (by omega)
  have hv : v.toNat < items.length := by omega
  have hx : ixN items.length v = some v.toNat := by
    unfold ixN
    rw [if_pos v0, if_pos v1]
  refine ⟨items[v.toNat], S', List.getElem_mem hv, ?_, d, nx⟩
  rw [runF (k + 1) 21 [.ref n, .p (.lst items)] S g21 rfl rfl]
  have e1 : evE (evF G (k + 1)) (ev G (evF G (k + 1)) (N0 + 38)) (.ix (.v 1) (.call 20 [(.v 0), (.bi .len [(.v 1)])])) [some (.ref n), some (.p (.lst items))] S = .ok (.p items[v.toNat]) S' := by
    have q1 : biR .len [.p (.lst items)] S = .ok (I items.length) S := rfl
    have q2 : ixR (.p (.lst items)) (I v) S' = .ok (.p items[v.toNat]) S' := by
      show liftP S' ((ixN items.length v).bind fun j => items[j]?) = _
      rw [hx]
      show liftP S' (items[v.toNat]?) = _
      rw [List.getElem?_eq_getElem hv]
      rfl
    simp only [q_ix, q_evE, q_v, q_call, q_bi, q_es, q_es0, q_ok, List.getElem?_cons_zero, List.getElem?_cons_succ, q1, cd_ref, r, q2]
  show endR (evCs _ _ [.ret _] [some (.ref n), some (.p (.lst items))] S) = _
  rw [q_cons, q_ret, q_evE, e1, q_fl, q_tht, q_end]
theorem pk6 {x : P} (h : x ∈ [P.int 10, .int 10, .int 10, .int 100, .int 1000000, .int 10000000000000000000]) : ∃ i : Int, x = .int i ∧ 0 < i ∧ i ≤ 10000000000000000000 := by
  simp only [List.mem_cons, List.mem_nil_iff, or_false] at h
  rcases h with h | h | h | h | h | h <;> exact ⟨_, h, by decide, by decide⟩
theorem pk2 {x : P} (h : x ∈ [P.int 1, .int (-1)]) : ∃ i : Int, x = .int i ∧ (i = 1 ∨ i = -1) := by
  simp only [List.mem_cons, List.mem_nil_iff, or_false] at h
  rcases h with h | h
  · exact ⟨1, h, .inl rfl⟩
  · exact ⟨-1, h, .inr rfl⟩
theorem c26 (S : Sto) {n m : Nat} (h : Dc S n m) (hm : m < 2 ^ 90) : ∃ (i : Int) (S' : Sto), i ≠ 0 ∧ i.natAbs ≤ 10000000000000000000 ∧ evF G (k + 3) 26 [.ref n] S = .ok (I i) S' ∧ Dc S' n (m + 3) ∧ Nxt S S' n := by
  obtain ⟨x, S1, hx, r1, d1, n1⟩ := c21 k S (items := [P.int 10, .int 10, .int 10, .int 100, .int 1000000, .int 10000000000000000000]) h (by omega) (by decide) (by decide)
  obtain ⟨b, rfl, b0, b1⟩ := pk6 hx
  obtain ⟨v, S2, r2, v0, v1, d2, n2⟩ := c20 (k + 1) S1 (t := b) d1 (by omega) b0 (by omega)
  obtain ⟨y, S3, hy, r3, d3, n3⟩ := c21 k S2 (items := [P.int 1, .int (-1)]) d2 (by omega) (by decide) (by decide)
  obtain ⟨s, rfl, hs⟩ := pk2 hy
  have mo : mulOk (1 + v) s = true := mul_ok (a := 70) (b := 1) (by omega) (by rcases hs with rfl | rfl <;> decide) (by decide)
  refine ⟨(1 + v) * s, S3, by rcases hs with rfl | rfl <;> omega, by rcases hs with rfl | rfl <;> omega, ?_, d3, n1.trans (n2.trans n3)⟩
  rw [runF (k + 2) 26 [.ref n] S g26 rfl rfl]
  have e1 : evE (evF G (k + 2)) (ev G (evF G (k + 2)) (N0 + 38)) (.call 21 [(.v 0), (.lst false [(.k (.int 10)), (.k (.int 10)), (.k (.int 10)), (.k (.int 100)), (.bin .pow (.k (.int 10)) (.k (.int 6))), (.bin .pow (.k (.int 10)) (.k (.int 19)))])]) [some (.ref n), none] S = .ok (I b) S1 := by
    have p1 : ∀ S, binR .pow (I 10) (I 6) S = .ok (I 1000000) S := fun S => rfl
    have p2 : ∀ S, binR .pow (I 10) (I 19) S = .ok (I 10000000000000000000) S := fun S => rfl
    have p3 : lstR false [I 10, I 10, I 10, I 100, I 1000000, I 10000000000000000000] S = .ok (.p (.lst [P.int 10, .int 10, .int 10, .int 100, .int 1000000, .int 10000000000000000000])) S := rfl
    simp only [q_evE, q_v, q_call, q_lst, q_k, q_bin, q_es, q_es0, q_ok, List.getElem?_cons_zero, List.getElem?_cons_succ, p1, p2, p3, cd_ref, r1]
  have e2 : evE (evF G (k + 2)) (ev G (evF G (k + 2)) (N0 + 38)) (.bin .mul (.bin .add (.k (.int 1)) (.call 20 [(.v 0), (.v 1)])) (.call 21 [(.v 0), (.lst false [(.k (.int 1)), (.neg (.k (.int 1)))])])) [some (.ref n), some (I b)] S1 = .ok (I ((1 + v) * s)) S3 := by
    have p3 : lstR false [I 1, I (-1)] S2 = .ok (.p (.lst [P.int 1, .int (-1)])) S2 := rfl
    have p1 : ∀ S, negR (I 1) S = .ok (I (-1)) S := fun S => rfl
    have p4 : binR .add (I 1) (I v) S2 = .ok (I (1 + v)) S2 := rfl
    have p5 : binR .mul (I (1 + v)) (I s) S3 = .ok (I ((1 + v) * s)) S3 := by
      show liftP S3 (if mulOk (1 + v) s = true then some (P.int ((1 + v) * s)) else none) = _
      rw [if_pos mo]
      rfl
    simp only [q_evE, q_v, q_call, q_lst, q_k, q_bin, q_neg, q_es, q_es0, q_ok, List.getElem?_cons_zero, List.getElem?_cons_succ, p1, p3, p4, p5, cd_ref, r2, r3]
  show endR (evCs _ _ [.set 1 _, .ret _] [some (.ref n), none] S) = _
  rw [q_cons, q_set, q_evE, e1, q_fl]
  show endR (evCs _ _ [.ret _] [some (.ref n), some (I b)] S1) = _
  rw [q_cons, q_ret, q_evE, e2, q_fl, q_tht, q_end]
theorem c27 (S : Sto) {n m : Nat} (h : Dc S n m) (hm : m < 2 ^ 80) : ∃ (r : Rat) (S' : Sto), sz r 64 ∧ evF G (k + 4) 27 [.ref n] S = .ok (Q r) S' ∧ Dc S' n (m + 7) ∧ Nxt S S' n := by
  obtain ⟨v, S1, r1, v0, v1, d1, n1⟩ := c20 (k + 2) S (t := 6) h (by omega) (by decide) (by decide)
  obtain ⟨t, S2, t0, t1, r2, d2, n2⟩ := c26 k S1 d1 (by omega)
  obtain ⟨b, S3, b0, b1, r3, d3, n3⟩ := c26 k S2 d2 (by omega)
  have e0 : evT (evF G (k + 3)) (ev G (evF G (k + 3)) (N0 + 38)) (.cmp .eq (.call 20 [(.v 0), (.k (.int 6))]) (.k (.int 0))) [some (.ref n)] S = .ok (decide (v = 0)) S1 := by
    have p1 : cmpR .eq (I v) (I 0) S1 = .ok (.p (.bl (decide (v = 0)))) S1 := by
      show evB (eqO (.int v) (.int 0)) S1 = _
      rw [eq_int]
      rfl
    simp only [q_tcmp, q_cmp, q_evE, q_v, q_call, q_k, q_es, q_es0, q_ok, List.getElem?_cons_zero, cd_ref, r1, p1, q_trub]
  by_cases hv : v = 0
  · refine ⟨0, S1, sz0.mono (by decide), ?_, d1.mono (by omega), n1⟩
    rw [runF (k + 3) 27 [.ref n] S g27 rfl rfl]
    show endR (evCs _ _ [.ite _ _ _, .ret _] [some (.ref n)] S) = _
    rw [q_cons, q_cite, q_evT, e0, q_fl, hv, decide_eq_true rfl, if_pos rfl, q_evC, q_cons, q_ret, q_evE, q_tup]
    simp only [q_es, q_es0, q_evE, q_k, q_ok]
    show _ = Mn.R.ok (D.p (qp 0)) S1
    rw [qp0]
    rfl
  · have ba : (b.natAbs : Int) ≠ 0 := by omega
    refine ⟨Rat.divInt t b.natAbs, S3, sz_divInt ba (by omega) (by omega), ?_, d3, n1.trans (n2.trans n3)⟩
    rw [runF (k + 3) 27 [.ref n] S g27 rfl rfl]
    show endR (evCs _ _ [.ite _ _ _, .ret _] [some (.ref n)] S) = _
    rw [q_cons, q_cite, q_evT, e0, q_fl, decide_eq_false hv, if_neg Bool.false_ne_true, q_evC, q_nil, q_thn]
    have e1 : evE (evF G (k + 3)) (ev G (evF G (k + 3)) (N0 + 38)) (.call 22 [(.call 26 [(.v 0)]), (.bi .abs [(.call 26 [(.v 0)])])]) [some (.ref n)] S1 = .ok (Q (Rat.divInt t b.natAbs)) S3 := by
      have p1 : biR .abs [I b] S3 = .ok (I b.natAbs) S3 := by
        show liftP S3 (abs1 (.int b)) = _
        rw [abs1_eq]
        rfl
      have p2 : callD (evF G (k + 3)) 22 [I t, I b.natAbs] S3 = .ok (Q (Rat.divInt t b.natAbs)) S3 := by
        unfold callD
        simp only [allP, Option.map_some, c22q (k + 2) [] ba (Nat.lt_of_le_of_lt t1 (by decide)) (show ((b.natAbs : Int)).natAbs < 2 ^ 4000 from Nat.lt_of_le_of_lt (by omega : _ ≤ 10000000000000000000) (by decide))]
      simp only [q_evE, q_v, q_call, q_bi, q_es, q_es0, q_ok, List.getElem?_cons_zero, cd_ref, r2, r3, p1, p2]
    rw [q_cons, q_ret, q_evE, e1, q_fl, q_tht, q_end]
end
end Lw21
namespace Lw21
open PySem Mn
theorem cd_p {cal : Nat → List D → Sto → Mn.R D} {f : Nat} {ds : List D} {ps : List P} {x : P} {S0 : Sto} (S : Sto) (hp : allP ds = some ps) (h : cal f ds [] = .ok (.p x) S0) : callD cal f ds S = .ok (.p x) S := by
  unfold callD
  rw [hp, h]
theorem ne_same (x : Rat) (S : Sto) : cmpR .ne (Q x) (Q x) S = .ok (.p (.bl false)) S := by
  show evB ((eqO (qp x) (qp x)).map not) S = _
  unfold qp
  rw [eq_pair]
  simp
theorem eq_same (x : Rat) (S : Sto) : cmpR .eq (Q x) (Q x) S = .ok (.p (.bl true)) S := by
  show evB (eqO (qp x) (qp x)) S = _
  unfold qp
  rw [eq_pair]
  simp
theorem ne_int (i j : Int) (S : Sto) : cmpR .ne (I i) (I j) S = .ok (.p (.bl (!decide (i = j)))) S := by
  show evB ((eqO (.int i) (.int j)).map not) S = _
  rw [eq_int]
  rfl
theorem ne_str (x : Str) (S : Sto) : cmpR .ne (.p (.str x)) (.p (.str x)) S = .ok (.p (.bl false)) S := by
  show evB ((eqO (.str x) (.str x)).map not) S = _
  rw [eq_str]
  simp
theorem eq_strs (x : Str) (S : Sto) : cmpR .eq (.p (.str x)) (.p (.str x)) S = .ok (.p (.bl true)) S := by
  show evB (eqO (.str x) (.str x)) S = _
  rw [eq_str]
  simp
/-- a text there is -/
theorem rp {X : P} {n : Nat} (S : Sto) (h : txt X = some n) (d : dat 64 X = true) (l : Nat.ble n line = true) : biR .repr [.p X] S = .ok (.p (.str (PyData.shown (toP X)))) S := by
  show liftP S (repr1 X) = _
  unfold repr1
  rw [h]
  dsimp only
  rw [d, l]
  rfl
theorem txt_int {i : Int} {s : Nat} (h : i.natAbs < 2 ^ s) (l : s < 1920) : txt (.int i) = some 1921 := by
  unfold txt
  rw [if_pos (Nat.lt_of_le_of_lt (log_lt h) l)]
theorem txt_q {r : Rat} {s : Nat} (h : sz r s) (l : s < 1920) : txt (qp r) = some 3849 := by
  unfold qp
  simp only [txt, txts]
  have h1 := txt_int h.1 l
  have h2 := txt_int (i := r.den) (by simpa using h.2) l
  simp only [txt] at h1 h2
  rw [h1, h2]
  rfl
theorem dat_q (r : Rat) (n : Nat) : dat (n + 1) (qp r) = true := by unfold qp; simp [dat, dats]
section
variable (k : Nat)
theorem lrow {n : Nat} {L : Mn.Loc} (h0 : L[0]? = some (some (.ref n))) (hl : 11 < L.length) (N : Nat) : ∀ (j : Nat) (lo : Int) (S : Sto) (m : Nat), Dc S n m → m + 7 * j < 2 ^ 80 →
    ∃ (qs : List Rat) (S' : Sto), qs.length = j ∧ (∀ r ∈ qs, sz r 64) ∧ lcP (ev G (evF G (k + 7)) (N + 3)) L (.n 11) none (.call 27 [(.v 0)]) (iota lo j) S = .ok (qs.map qp) S' ∧ Dc S' n (m + 7 * j) ∧ Nxt S S' n
  | 0, lo, S, m, d, _ => ⟨[], S, rfl, (fun _ h => by cases h), rfl, d, Nxt.refl⟩
  | j + 1, lo, S, m, d, hm => by
    obtain ⟨r, S1, hr, r1, d1, n1⟩ := c27 (k + 3) S d (by omega)
    obtain ⟨qs, S2, h1, h2, h3, h4, h5⟩ := lrow h0 hl N j (lo + 1) S1 (m + 7) d1 (by omega)
    refine ⟨r :: qs, S2, by rw [List.length_cons, h1], fun z hz => ?_, ?_, by rw [show m + 7 * (j + 1) = m + 7 + 7 * j from by omega]; exact h4, n1.trans h5⟩
    · rcases List.mem_cons.mp hz with rfl | hz
      · exact hr
      · exact h2 z hz
    · show lcP _ _ _ none _ (.int lo :: iota (lo + 1) j) S = _
      have ea : asg (.n 11) (.p (.int lo)) L = some (setL L 11 (I lo)) := by
        unfold asg
        rw [if_pos hl]
      have e0 : (setL L 11 (I lo))[0]? = some (some (.ref n)) := by
        unfold setL
        rw [List.getElem?_set_ne (by decide)]
        exact h0
      rw [q_lc1, ea]
      dsimp only
      have e1 : (ev G (evF G (k + 7)) (N + 3)).e (.call 27 [(.v 0)]) (setL L 11 (I lo)) S = .ok (Q r) S1 := by
        simp only [q_evE, q_call, q_es, q_es0, q_v, e0, q_ok, cd_ref]
        exact r1
      rw [e1, q_ok]
      dsimp only
      rw [h3, q_ok]
      rfl
theorem lp8 (S : Sto) (l0 l1 l2 l3 l4 l6 l7 l8 l10 l11 l12 l13 : Option D) : ∀ (qs : List Rat) (acc : Rat) (s : Nat) (x : Option D), sz acc s → (∀ r ∈ qs, sz r 70) → s + 71 * qs.length ≤ B →
    ∃ y, foP (ev G (evF G (k + 7)) (N0 + 39)) (.n 9) [.set 5 (.call 23 [.v 5, .v 9])] (qs.map qp) [l0, l1, l2, l3, l4, some (Q acc), l6, l7, l8, x, l10, l11, l12, l13] S = .nx [l0, l1, l2, l3, l4, some (Q (sumR acc qs)), l6, l7, l8, y, l10, l11, l12, l13] S
  | [], acc, s, x, ha, _, _ => ⟨x, rfl⟩
  | r :: qs, acc, s, x, ha, hq, hl => by
    have hr : sz r 70 := hq r List.mem_cons_self
    have hl' : s + 71 + 71 * qs.length ≤ B := by have : (r :: qs).length = qs.length + 1 := rfl; omega
    have cc : callD (evF G (k + 7)) 23 [Q acc, Q r] S = .ok (Q (acc + r)) S := cd_p S rfl (c23 (k + 5) [] (ha.mono (by omega)) (hr.mono (by decide)))
    obtain ⟨y, e1⟩ := lp8 S l0 l1 l2 l3 l4 l6 l7 l8 l10 l11 l12 l13 qs (acc + r) (s + 71) (some (Q r)) (by have := sz_add ha hr; rwa [show s + 70 + 1 = s + 71 from by omega] at this) (fun z hz => hq z (List.mem_cons_of_mem _ hz)) hl'
    refine ⟨y, ?_⟩
    rw [List.map_cons, q_fo1]
    have ea : asg (.n 9) (.p (qp r)) [l0, l1, l2, l3, l4, some (Q acc), l6, l7, l8, x, l10, l11, l12, l13] = some [l0, l1, l2, l3, l4, some (Q acc), l6, l7, l8, some (Q r), l10, l11, l12, l13] := rfl
    rw [ea]
    dsimp only
    have e2 : (ev G (evF G (k + 7)) (N0 + 39)).c [.set 5 (.call 23 [.v 5, .v 9])] [l0, l1, l2, l3, l4, some (Q acc), l6, l7, l8, some (Q r), l10, l11, l12, l13] S = .nx [l0, l1, l2, l3, l4, some (Q (acc + r)), l6, l7, l8, some (Q r), l10, l11, l12, l13] S := by
      simp only [q_evC, q_cons, q_nil, q_set, q_evE, q_call, q_es, q_es0, q_v, List.getElem?_cons_zero, List.getElem?_cons_succ, q_ok, cc, q_fl]
      rfl
    rw [e2]
    exact e1
theorem lp12 (S : Sto) {a : Rat} {s : Nat} (ha : sz a s) (l0 l2 l3 l4 l6 l7 l8 l9 l10 l12 l13 : Option D) : ∀ (m : Nat) (lo : Int) (acc : Rat) (b : Nat) (x : Option D), sz acc b → b + s * m ≤ B → s ≤ B →
    ∃ y, foP (ev G (evF G (k + 7)) (N0 + 39)) (.n 11) [.set 5 (.call 24 [.v 5, .v 1])] (iota lo m) [l0, some (Q a), l2, l3, l4, some (Q acc), l6, l7, l8, l9, l10, x, l12, l13] S = .nx [l0, some (Q a), l2, l3, l4, some (Q (powR a m acc)), l6, l7, l8, l9, l10, y, l12, l13] S
  | 0, lo, acc, b, x, hb, _, _ => ⟨x, rfl⟩
  | m + 1, lo, acc, b, x, hb, hl, hs => by
    rw [Nat.mul_add, Nat.mul_one] at hl
    have cc : callD (evF G (k + 7)) 24 [Q acc, Q a] S = .ok (Q (acc * a)) S := cd_p S rfl (c24 (k + 5) [] (hb.mono (by omega)) (ha.mono hs))
    obtain ⟨y, e1⟩ := lp12 S ha l0 l2 l3 l4 l6 l7 l8 l9 l10 l12 l13 m (lo + 1) (acc * a) (b + s) (some (I lo)) (sz_mul hb ha) (by omega) hs
    refine ⟨y, ?_⟩
    show foP _ _ _ (.int lo :: iota (lo + 1) m) _ _ = _
    rw [q_fo1]
    have ea : asg (.n 11) (.p (.int lo)) [l0, some (Q a), l2, l3, l4, some (Q acc), l6, l7, l8, l9, l10, x, l12, l13] = some [l0, some (Q a), l2, l3, l4, some (Q acc), l6, l7, l8, l9, l10, some (I lo), l12, l13] := rfl
    rw [ea]
    dsimp only
    have e2 : (ev G (evF G (k + 7)) (N0 + 39)).c [.set 5 (.call 24 [.v 5, .v 1])] [l0, some (Q a), l2, l3, l4, some (Q acc), l6, l7, l8, l9, l10, some (I lo), l12, l13] S = .nx [l0, some (Q a), l2, l3, l4, some (Q (acc * a)), l6, l7, l8, l9, l10, some (I lo), l12, l13] S := by
      simp only [q_evC, q_cons, q_nil, q_set, q_evE, q_call, q_es, q_es0, q_v, List.getElem?_cons_zero, List.getElem?_cons_succ, q_ok, cc, q_fl]
      rfl
    rw [e2]
    exact e1
theorem sum_rev (qs : List Rat) : sumR 0 qs.reverse = sumR 0 qs := by
  have h : ∀ (l : List Rat) (a : Rat), sumR a l = a + sumR 0 l := by
    intro l
    induction l with
    | nil => intro a; show a = a + 0; rw [Rat.add_zero]
    | cons x l ih =>
      intro a
      show sumR (a + x) l = a + sumR (0 + x) l
      rw [ih (a + x), ih (0 + x), Rat.zero_add, Rat.add_assoc]
  induction qs with
  | nil => rfl
  | cons x l ih =>
    have e : sumR 0 (x :: l).reverse = sumR 0 l.reverse + x := by
      rw [List.reverse_cons]
      unfold sumR
      rw [List.foldl_append]
      rfl
    rw [e, ih]
    show _ = sumR (0 + x) l
    rw [h l (0 + x), Rat.zero_add, Rat.add_comm]
end
end Lw21
namespace Lw21
open PySem Mn
section
variable (k : Nat)
/-- an expression of right's, its names the fourteen -/
abbrev eE (e : E) (L : Mn.Loc) (S : Sto) := (ev G (evF G (k + 7)) (N0 + 39)).e e L S
abbrev eT (e : E) (L : Mn.Loc) (S : Sto) := (ev G (evF G (k + 7)) (N0 + 39)).t e L S
theorem iff_ok {e : E} {L : Mn.Loc} {S S' : Sto} {b c : List C} (h : (ev G (evF G (k + 7)) (N0 + 39)).t e L S = .ok false S') : evC (ev G (evF G (k + 7)) (N0 + 39)) G.rs (.ite e b []) L S = .nx L S' := by
  rw [q_cite, h, q_fl, if_neg Bool.false_ne_true, q_evC, q_nil]
theorem st1 {a b : Rat} (ha : sz a 64) (hb : sz b 64) (S : Sto) {L : Mn.Loc} (h1 : L[1]? = some (some (Q a))) (h2 : L[2]? = some (some (Q b))) :
    eE k (.lst false [(.call 12 [(.v 1), (.v 2)]), (.call 13 [(.v 1), (.v 2)]), (.call 14 [(.v 1), (.v 2)]), (.call 12 [(.call 13 [(.v 1), (.v 2)]), (.v 2)])]) L S = .ok (.p (.lst [qp (a + b), qp (a - b), qp (a * b), qp a])) S := by
  have A := ha.mono (show 64 ≤ B by decide)
  have B' := hb.mono (show 64 ≤ B by decide)
  have D' := (sz_sub ha hb).mono (show 64 + 64 + 1 ≤ B by decide)
  have q1 : callD (evF G (k + 7)) 12 [Q a, Q b] S = .ok (Q (a + b)) S := cd_p S rfl (c12 (k + 3) [] A B')
  have q2 : callD (evF G (k + 7)) 13 [Q a, Q b] S = .ok (Q (a - b)) S := cd_p S rfl (c13 (k + 3) [] A B')
  have q3 : callD (evF G (k + 7)) 14 [Q a, Q b] S = .ok (Q (a * b)) S := cd_p S rfl (c14 (k + 3) [] A B')
  have q4 : callD (evF G (k + 7)) 12 [Q (a - b), Q b] S = .ok (Q a) S := by
    have := c12 (k + 3) [] D' B'
    rw [Rat.sub_add_cancel] at this
    exact cd_p S rfl this
  simp only [eE, q_evE, q_lst, q_es, q_es0, q_call, q_v, h1, h2, q_ok, q1, q2, q3, q4]
  rfl
theorem st2 {a b : Rat} (ha : sz a 64) (hb : sz b 64) (S : Sto) {L : Mn.Loc} (h1 : L[1]? = some (some (Q a))) (h2 : L[2]? = some (some (Q b))) (h4 : L[4]? = some (some (.p (.lst [qp (a + b), qp (a - b), qp (a * b), qp a])))) :
    eT k (.cmp .ne (.bi .repr [(.v 4)]) (.bi .repr [(.lst false [(.call 23 [(.v 1), (.v 2)]), (.call 25 [(.v 1), (.v 2)]), (.call 24 [(.v 1), (.v 2)]), (.v 1)])])) L S = .ok false S := by
  have A := ha.mono (show 64 ≤ B by decide)
  have B' := hb.mono (show 64 ≤ B by decide)
  have q1 : callD (evF G (k + 7)) 23 [Q a, Q b] S = .ok (Q (a + b)) S := cd_p S rfl (c23 (k + 5) [] A B')
  have q2 : callD (evF G (k + 7)) 25 [Q a, Q b] S = .ok (Q (a - b)) S := cd_p S rfl (c25 (k + 5) [] A B')
  have q3 : callD (evF G (k + 7)) 24 [Q a, Q b] S = .ok (Q (a * b)) S := cd_p S rfl (c24 (k + 5) [] A B')
  have q4 : lstR false [Q (a + b), Q (a - b), Q (a * b), Q a] S = .ok (.p (.lst [qp (a + b), qp (a - b), qp (a * b), qp a])) S := rfl
  have tx : txt (.lst [qp (a + b), qp (a - b), qp (a * b), qp a]) = some 15407 := by
    simp only [txt, txts, txt_q (sz_add ha hb) (by decide), txt_q (sz_sub ha hb) (by decide), txt_q (sz_mul ha hb) (by decide), txt_q ha (by decide)]
    rfl
  have dt : dat 64 (.lst [qp (a + b), qp (a - b), qp (a * b), qp a]) = true := by simp [dat, dats, dat_q]
  have q5 := rp S tx dt (by decide)
  simp only [eT, q_evT, q_tcmp, q_cmp, q_evE, q_bi, q_lst, q_es, q_es0, q_call, q_v, h1, h2, h4, q_ok, q1, q2, q3, q4, q5, ne_str, q_trub]
theorem st3 {a b : Rat} (ha : sz a 64) (hb : sz b 64) (S : Sto) (l0 l3 l4 l5 l6 l7 l8 l9 l10 l11 l12 l13 : Option D) : ∃ y,
    evC (ev G (evF G (k + 7)) (N0 + 39)) G.rs (.ite (.cmp .ne (.ix (.v 2) (.k (.int 0))) (.k (.int 0))) [(.set 5 (.call 22 [(.bin .mul (.ix (.v 1) (.k (.int 0))) (.ix (.v 2) (.k (.int 1)))), (.bin .mul (.ix (.v 1) (.k (.int 1))) (.ix (.v 2) (.k (.int 0))))])), (.ite (.or (.cmp .ne (.bi .repr [(.call 15 [(.v 1), (.v 2)])]) (.bi .repr [(.v 5)])) (.cmp .ne (.call 14 [(.call 15 [(.v 1), (.v 2)]), (.v 2)]) (.v 1))) [(.ret (.k (.bl false)))] [])] [])
      [l0, some (Q a), some (Q b), l3, l4, l5, l6, l7, l8, l9, l10, l11, l12, l13] S = .nx [l0, some (Q a), some (Q b), l3, l4, y, l6, l7, l8, l9, l10, l11, l12, l13] S := by
  have A := ha.mono (show 64 ≤ B by decide)
  have B' := hb.mono (show 64 ≤ B by decide)
  have t1 : (ev G (evF G (k + 7)) (N0 + 39)).t (.cmp .ne (.ix (.v 2) (.k (.int 0))) (.k (.int 0))) [l0, some (Q a), some (Q b), l3, l4, l5, l6, l7, l8, l9, l10, l11, l12, l13] S = .ok (!decide (b.num = 0)) S := by
    simp only [q_evT, q_tcmp, q_cmp, q_evE, q_ix, q_v, q_k, List.getElem?_cons_zero, List.getElem?_cons_succ, q_ok, ix0, ne_int, q_trub]
  by_cases h0 : b.num = 0
  · refine ⟨l5, ?_⟩
    rw [h0, decide_eq_true rfl] at t1
    exact iff_ok k (c := []) t1
  · refine ⟨some (Q (a / b)), ?_⟩
    rw [decide_eq_false h0] at t1
    have t1 : (ev G (evF G (k + 7)) (N0 + 39)).t (.cmp .ne (.ix (.v 2) (.k (.int 0))) (.k (.int 0))) [l0, some (Q a), some (Q b), l3, l4, l5, l6, l7, l8, l9, l10, l11, l12, l13] S = .ok true S := t1
    have hbz : b ≠ 0 := fun z => h0 (by rw [z]; rfl)
    have m1 : ∀ S, binR .mul (I a.num) (I b.den) S = .ok (I (a.num * b.den)) S := fun S => by
      show liftP S (if mulOk a.num b.den = true then some (P.int (a.num * b.den)) else none) = _
      rw [if_pos (mm A.1 (dsm B'))]; rfl
    have m2 : ∀ S, binR .mul (I a.den) (I b.num) S = .ok (I (a.den * b.num)) S := fun S => by
      show liftP S (if mulOk a.den b.num = true then some (P.int (a.den * b.num)) else none) = _
      rw [if_pos (mm (dsm A) B'.1)]; rfl
    have q1 : callD (evF G (k + 7)) 22 [I (a.num * b.den), I (a.den * b.num)] S = .ok (Q (a / b)) S := by
      refine cd_p (S0 := []) S rfl ?_
      rw [c22q (k + 6) [] (Int.mul_ne_zero (den_ne a) h0) (up (mul_sm (a := B) (b := B) A.1 (dsm B')) (by decide)) (up (mul_sm (a := B) (b := B) (dsm A) B'.1) (by decide)), ← div_eq]
    have sd := sz_div h0 ha hb
    have q2 : callD (evF G (k + 7)) 15 [Q a, Q b] S = .ok (Q (a / b)) S := cd_p S rfl (c15 (k + 3) [] h0 A B')
    have q3 : callD (evF G (k + 7)) 14 [Q (a / b), Q b] S = .ok (Q a) S := by
      have := c14 (k + 3) [] (sd.mono (show 64 + 64 ≤ B by decide)) B'
      rw [Rat.div_mul_cancel hbz] at this
      exact cd_p S rfl this
    have q5 := rp S (txt_q sd (by decide)) (dat_q (a / b) 63) (by decide)
    rw [q_cite, t1, q_fl, if_pos rfl, q_evC, q_cons]
    have e1 : evC (ev G (evF G (k + 7)) (N0 + 38)) G.rs (.set 5 (.call 22 [(.bin .mul (.ix (.v 1) (.k (.int 0))) (.ix (.v 2) (.k (.int 1)))), (.bin .mul (.ix (.v 1) (.k (.int 1))) (.ix (.v 2) (.k (.int 0))))])) [l0, some (Q a), some (Q b), l3, l4, l5, l6, l7, l8, l9, l10, l11, l12, l13] S = .nx [l0, some (Q a), some (Q b), l3, l4, some (Q (a / b)), l6, l7, l8, l9, l10, l11, l12, l13] S := by
      simp only [q_set, q_evE, q_call, q_es, q_es0, q_bin, q_ix, q_v, q_k, List.getElem?_cons_zero, List.getElem?_cons_succ, q_ok, ix0, ix1, m1, m2, q1, q_fl]
      rfl
    rw [e1, q_thn, q_cons]
    have t2 : (ev G (evF G (k + 7)) (N0 + 38)).t (.or (.cmp .ne (.bi .repr [(.call 15 [(.v 1), (.v 2)])]) (.bi .repr [(.v 5)])) (.cmp .ne (.call 14 [(.call 15 [(.v 1), (.v 2)]), (.v 2)]) (.v 1))) [l0, some (Q a), some (Q b), l3, l4, some (Q (a / b)), l6, l7, l8, l9, l10, l11, l12, l13] S = .ok false S := by
      simp only [q_evT, q_tor, q_tcmp, q_cmp, q_evE, q_bi, q_call, q_es, q_es0, q_v, List.getElem?_cons_zero, List.getElem?_cons_succ, q_ok, q2, q5, ne_str, q_trub, q3, ne_same]
      rfl
    rw [q_cite, t2, q_fl, if_neg Bool.false_ne_true, q_evC, q_nil, q_thn, q_nil]
end
end Lw21
namespace Lw21
open PySem Mn
section
variable (k : Nat)
theorem b2i (b : Bool) (S : Sto) : biR .int [.p (.bl b)] S = .ok (I (if b then 1 else 0)) S := rfl
theorem st5 {a b : Rat} (ha : sz a 64) (hb : sz b 64) (S : Sto) (l0 l3 l4 l5 l8 l9 l10 l11 l12 l13 : Option D) :
    (ev G (evF G (k + 7)) (N0 + 39)).t (.or (.cmp .ne (.call 16 [(.v 1), (.v 2)]) (.bin .sub (.bi .int [(.cmp .gt (.v 6) (.v 7))]) (.bi .int [(.cmp .lt (.v 6) (.v 7))]))) (.cmp .ne (.call 16 [(.v 1), (.v 1)]) (.k (.int 0))))
      [l0, some (Q a), some (Q b), l3, l4, l5, some (I (a.num * b.den)), some (I (b.num * a.den)), l8, l9, l10, l11, l12, l13] S = .ok false S := by
  have A := ha.mono (show 64 ≤ B by decide)
  have B' := hb.mono (show 64 ≤ B by decide)
  have q1 : callD (evF G (k + 7)) 16 [Q a, Q b] S = .ok (I ((if b.num * a.den < a.num * b.den then 1 else 0) - (if a.num * b.den < b.num * a.den then 1 else 0))) S := cd_p S rfl (c16 (k + 3) [] A B')
  have q2 : callD (evF G (k + 7)) 16 [Q a, Q a] S = .ok (I ((if a.num * a.den < a.num * a.den then 1 else 0) - (if a.num * a.den < a.num * a.den then 1 else 0))) S := cd_p S rfl (c16 (k + 3) [] A A)
  have g1 : ∀ x y S, cmpR .gt (I x) (I y) S = .ok (.p (.bl (decide (y < x)))) S := fun _ _ _ => rfl
  have g2 : ∀ x y S, cmpR .lt (I x) (I y) S = .ok (.p (.bl (decide (x < y)))) S := fun _ _ _ => rfl
  have g3 : ∀ x y S, binR .sub (I x) (I y) S = .ok (I (x - y)) S := fun _ _ _ => rfl
  rw [if_neg (Int.lt_irrefl _), Int.sub_self] at q2
  simp only [q_evT, q_tor, q_tcmp, q_cmp, q_evE, q_bin, q_bi, q_call, q_es, q_es0, q_v, q_k, List.getElem?_cons_zero, List.getElem?_cons_succ, q_ok, q1, q2, g1, g2, g3, b2i, ne_int, q_trub]
  simp
theorem st6 {a b c : Rat} (ha : sz a 64) (hb : sz b 64) (hc : sz c 64) (S : Sto) {L : Mn.Loc} (h1 : L[1]? = some (some (Q a))) (h2 : L[2]? = some (some (Q b))) (h3 : L[3]? = some (some (Q c))) :
    eT k (.cmp .ne (.call 14 [(.call 12 [(.v 1), (.v 2)]), (.v 3)]) (.call 12 [(.call 14 [(.v 1), (.v 3)]), (.call 14 [(.v 2), (.v 3)])])) L S = .ok false S := by
  have A := ha.mono (show 64 ≤ B by decide)
  have B' := hb.mono (show 64 ≤ B by decide)
  have C' := hc.mono (show 64 ≤ B by decide)
  have q1 : callD (evF G (k + 7)) 12 [Q a, Q b] S = .ok (Q (a + b)) S := cd_p S rfl (c12 (k + 3) [] A B')
  have q2 : callD (evF G (k + 7)) 14 [Q (a + b), Q c] S = .ok (Q ((a + b) * c)) S := cd_p S rfl (c14 (k + 3) [] ((sz_add ha hb).mono (by decide)) C')
  have q3 : callD (evF G (k + 7)) 14 [Q a, Q c] S = .ok (Q (a * c)) S := cd_p S rfl (c14 (k + 3) [] A C')
  have q4 : callD (evF G (k + 7)) 14 [Q b, Q c] S = .ok (Q (b * c)) S := cd_p S rfl (c14 (k + 3) [] B' C')
  have q5 : callD (evF G (k + 7)) 12 [Q (a * c), Q (b * c)] S = .ok (Q ((a + b) * c)) S := by
    have := c12 (k + 3) [] ((sz_mul ha hc).mono (show 64 + 64 ≤ B by decide)) ((sz_mul hb hc).mono (show 64 + 64 ≤ B by decide))
    rw [← Rat.add_mul] at this
    exact cd_p S rfl this
  simp only [eT, q_evT, q_tcmp, q_cmp, q_evE, q_call, q_es, q_es0, q_v, h1, h2, h3, q_ok, q1, q2, q3, q4, q5, ne_same, q_trub]
theorem st9 {qs : List Rat} (hq : ∀ r ∈ qs, sz r 70) (hl : 1 + 71 * qs.length ≤ B) (S : Sto) {L : Mn.Loc} (h8 : L[8]? = some (some (.p (.lst (qs.map qp))))) (h5 : L[5]? = some (some (Q (sumR 0 qs)))) :
    eT k (.or (.cmp .ne (.call 17 [(.bi .tuple [(.v 8)])]) (.v 5)) (.cmp .ne (.call 17 [(.bi .tuple [(.rev (.v 8))])]) (.v 5))) L S = .ok false S := by
  have t1 : biR .tuple [.p (.lst (qs.map qp))] S = .ok (.p (.tup (qs.map qp))) S := rfl
  have t2 : revR (.p (.lst (qs.map qp))) S = .ok (.p (.lst (qs.reverse.map qp))) S := by
    rw [List.map_reverse]
    rfl
  have t3 : biR .tuple [.p (.lst (qs.reverse.map qp))] S = .ok (.p (.tup (qs.reverse.map qp))) S := rfl
  have q1 : callD (evF G (k + 7)) 17 [.p (.tup (qs.map qp))] S = .ok (Q (sumR 0 qs)) S := cd_p S rfl (c17 (k + 2) [] hq hl)
  have q2 : callD (evF G (k + 7)) 17 [.p (.tup (qs.reverse.map qp))] S = .ok (Q (sumR 0 qs)) S := by
    have := c17 (k + 2) [] (qs := qs.reverse) (fun r hr => hq r (List.mem_reverse.mp hr)) (by rw [List.length_reverse]; exact hl)
    rw [sum_rev] at this
    exact cd_p S rfl this
  simp only [eT, q_evT, q_tor, q_tcmp, q_cmp, q_evE, q_call, q_bi, q_rev, q_es, q_es0, q_v, h8, h5, q_ok, t1, t2, t3, q1, q2, ne_same, q_trub]
  rfl
theorem st12 {a : Rat} (ha : sz a 64) {m : Nat} (hm : m ≤ 7) (S : Sto) {L : Mn.Loc} (h1 : L[1]? = some (some (Q a))) (h10 : L[10]? = some (some (I m))) (h5 : L[5]? = some (some (Q (powR a m 1)))) :
    eT k (.or (.cmp .ne (.call 18 [(.v 1), (.v 10)]) (.v 5)) (.cmp .ne (.call 18 [(.v 1), (.k (.int 0))]) (.tup [(.k (.int 1)), (.k (.int 1))]))) L S = .ok false S := by
  have hB : (B : Nat) = 1900 := rfl
  have q1 : callD (evF G (k + 7)) 18 [Q a, I m] S = .ok (Q (powR a m 1)) S := cd_p S rfl (c18 (k + 3) [] ha m (by omega) (by omega) (by omega)).1
  have q2 : callD (evF G (k + 7)) 18 [Q a, I 0] S = .ok (Q 1) S := cd_p S rfl (c18 (k + 3) [] ha 0 (by omega) (by omega) (by omega)).1
  have t1 : tupR [I 1, I 1] S = .ok (Q 1) S := by
    show _ = Mn.R.ok (D.p (qp 1)) S
    rw [qp1]
    rfl
  simp only [eT, q_evT, q_tor, q_tcmp, q_cmp, q_evE, q_call, q_tup, q_es, q_es0, q_v, q_k, h1, h10, h5, q_ok, q1, q2, t1, ne_same, q_trub]
  rfl
theorem st14 {t b : Int} (hb0 : b ≠ 0) (ht : t.natAbs ≤ 10000000000000000000) (hb : b.natAbs ≤ 10000000000000000000) (S : Sto) {L : Mn.Loc} (h12 : L[12]? = some (some (I t))) (h13 : L[13]? = some (some (I b))) :
    evE (evF G (k + 7)) (ev G (evF G (k + 7)) (N0 + 38)) (.and (.cmp .eq (.call 4 [(.v 12), (.v 13)]) (.call 22 [(.v 12), (.v 13)])) (.cmp .eq (.bi .repr [(.call 4 [(.v 12), (.k (.int 1))])]) (.bi .repr [(.tup [(.v 12), (.k (.int 1))])]))) L S = .ok (.p (.bl true)) S := by
  have q1 : callD (evF G (k + 7)) 4 [I t, I b] S = .ok (Q (Rat.divInt t b)) S := cd_p S rfl (c4 (k + 4) [] hb0 (Nat.lt_of_le_of_lt ht (by decide)) (Nat.lt_of_le_of_lt hb (by decide)))
  have q2 : callD (evF G (k + 7)) 22 [I t, I b] S = .ok (Q (Rat.divInt t b)) S := cd_p S rfl (c22q (k + 6) [] hb0 (Nat.lt_of_le_of_lt ht (by decide)) (Nat.lt_of_le_of_lt hb (by decide)))
  have q3 : callD (evF G (k + 7)) 4 [I t, I 1] S = .ok (.p (.tup [.int t, .int 1])) S := by
    have := c4 (k + 4) [] (t := t) (b := 1) (by decide) (Nat.lt_of_le_of_lt ht (by decide)) (by decide)
    rw [show (Q (Rat.divInt t 1)) = D.p (.tup [.int t, .int 1]) from congrArg D.p (qp_int t)] at this
    exact cd_p S rfl this
  have t1 : tupR [I t, I 1] S = .ok (.p (.tup [.int t, .int 1])) S := rfl
  have tx : txt (.tup [.int t, .int 1]) = some 3849 := by
    have h := txt_int (i := t) (s := 70) (Nat.lt_of_le_of_lt ht (by decide)) (by decide)
    have h' := txt_int (i := 1) (s := 70) (by decide) (by decide)
    simp only [txt] at h h'
    simp only [txt, txts, h, h']
    rfl
  have q5 := rp S tx (by simp [dat, dats]) (by decide)
  simp only [q_and, q_cmp, q_evE, q_call, q_bi, q_tup, q_es, q_es0, q_v, q_k, h12, h13, q_ok, q1, q2, q3, t1, q5, eq_same, eq_strs, q_trub]
  rfl
end
end Lw21
namespace Lw21
open PySem Mn
section
variable (k : Nat)
theorem inR6 {v : Int} (h0 : 0 ≤ v) (h1 : v < 10) : inR v = true := by
  obtain ⟨m, rfl⟩ := Int.eq_ofNat_of_zero_le h0
  exact inR60 m (by omega)
theorem ret_and {e : E} {L : Mn.Loc} {S S' : Sto} {d : D} (h : evE (evF G (k + 7)) (ev G (evF G (k + 7)) (N0 + 38)) e L S = .ok d S') : evC (ev G (evF G (k + 7)) (N0 + 39)) G.rs (.ret e) L S = .rt d S' := by
  rw [q_ret, q_evE, h, q_fl]
theorem c28 (S : Sto) {n m : Nat} (hd : Dc S n m) (hm : m < 2 ^ 70) : ∃ S', evF G (k + 8) 28 [.ref n] S = .ok (.p (.bl true)) S' ∧ Dc S' n (m + 100) ∧ Nxt S S' n := by
  obtain ⟨a, S1, ha, r1, d1, n1⟩ := c27 (k + 3) S hd (by omega)
  obtain ⟨b, S2, hb, r2, d2, n2⟩ := c27 (k + 3) S1 d1 (by omega)
  obtain ⟨c, S3, hc, r3, d3, n3⟩ := c27 (k + 3) S2 d2 (by omega)
  have A := ha.mono (show 64 ≤ B by decide)
  have B' := hb.mono (show 64 ≤ B by decide)
  obtain ⟨v, S4, r4, v0, v1, d4, n4⟩ := c20 (k + 6) S3 (t := 6) d3 (by omega) (by decide) (by decide)
  generalize hT : D.p (P.lst [qp (a + b), qp (a - b), qp (a * b), qp a]) = T
  obtain ⟨y3, e3⟩ := st3 k ha hb S3 (some (.ref n)) (some (Q c)) (some T) none none none none none none none none none
  have hz : (wipeL [some (.ref n), some (Q a), some (Q b), some (Q c), some T, y3, some (I (a.num * b.den)), some (I (b.num * a.den)), none, none, none, none, none, none] [11]) = [some (.ref n), some (Q a), some (Q b), some (Q c), some T, y3, some (I (a.num * b.den)), some (I (b.num * a.den)), none, none, none, none, none, none] := rfl
  obtain ⟨qs, S5, ql, qz, r5, d5, n5⟩ := lrow k (L := [some (.ref n), some (Q a), some (Q b), some (Q c), some T, y3, some (I (a.num * b.den)), some (I (b.num * a.den)), none, none, none, none, none, none]) (n := n) rfl (by show 11 < 14; omega) (N0 + 35) v.toNat 0 S4 (m + 22) (d4.mono (by omega)) (by omega)
  have hq : ∀ r ∈ qs, sz r 70 := fun r hr => (qz r hr).mono (by decide)
  have hl : 1 + 71 * qs.length ≤ B := by have hB : (B : Nat) = 1900 := rfl; omega
  obtain ⟨w, S6, r6, w0, w1, d6, n6⟩ := c20 (k + 6) S5 (t := 7) (d5.mono (show m + 22 + 7 * v.toNat ≤ m + 60 by omega)) (by omega) (by decide) (by decide)
  obtain ⟨wn, rfl⟩ := Int.eq_ofNat_of_zero_le w0
  obtain ⟨i0, S7, i01, i02, r7, d7, n7⟩ := c26 (k + 4) S6 d6 (by omega)
  obtain ⟨x, S8, hx, r8, d8, n8⟩ := c21 (k + 5) S7 (items := [P.int 0, .int i0]) d7 (by omega) (show 0 < 2 by omega) (show 2 < 2 ^ 60 by decide)
  obtain ⟨t, rfl, ht⟩ : ∃ t : Int, x = .int t ∧ t.natAbs ≤ 10000000000000000000 := by
    simp only [List.mem_cons, List.mem_nil_iff, or_false] at hx
    rcases hx with rfl | rfl
    · exact ⟨0, rfl, by decide⟩
    · exact ⟨i0, rfl, i02⟩
  obtain ⟨z, S9, z1, z2, r9, d9, n9⟩ := c26 (k + 4) S8 d8 (by omega)
  refine ⟨S9, ?_, d9.mono (by omega), n1.trans (n2.trans (n3.trans (n4.trans (n5.trans (n6.trans (n7.trans (n8.trans n9)))))))⟩
  -- the statements, one by one
  have s0 : evC (ev G (evF G (k + 7)) (N0 + 39)) G.rs (.setT [1, 2, 3] [(.call 27 [(.v 0)]), (.call 27 [(.v 0)]), (.call 27 [(.v 0)])]) [some (.ref n), none, none, none, none, none, none, none, none, none, none, none, none, none] S = .nx [some (.ref n), some (Q a), some (Q b), some (Q c), none, none, none, none, none, none, none, none, none, none] S3 := by
    simp only [q_setT, q_evE, q_call, q_es, q_es0, q_v, List.getElem?_cons_zero, q_ok, cd_ref, r1, r2, r3, q_fl]
    rfl
  have s1 : evC (ev G (evF G (k + 7)) (N0 + 39)) G.rs (.set 4 (.lst false [(.call 12 [(.v 1), (.v 2)]), (.call 13 [(.v 1), (.v 2)]), (.call 14 [(.v 1), (.v 2)]), (.call 12 [(.call 13 [(.v 1), (.v 2)]), (.v 2)])])) [some (.ref n), some (Q a), some (Q b), some (Q c), none, none, none, none, none, none, none, none, none, none] S3 = .nx [some (.ref n), some (Q a), some (Q b), some (Q c), some T, none, none, none, none, none, none, none, none, none] S3 := by
    have h := st1 k ha hb S3 (L := [some (.ref n), some (Q a), some (Q b), some (Q c), none, none, none, none, none, none, none, none, none, none]) rfl rfl
    rw [q_set]
    have h : (ev G (evF G (k + 7)) (N0 + 39)).e _ _ S3 = _ := h
    rw [h, q_fl, ← hT]
    rfl
  have s2 := iff_ok k (b := [(.ret (.k (.bl false)))]) (c := []) (st2 k ha hb S3 (L := [some (.ref n), some (Q a), some (Q b), some (Q c), some T, none, none, none, none, none, none, none, none, none]) rfl rfl (by rw [← hT]; rfl))
  have m1 : ∀ S, binR .mul (I a.num) (I b.den) S = .ok (I (a.num * b.den)) S := fun S => by
    show liftP S (if mulOk a.num b.den = true then some (P.int (a.num * b.den)) else none) = _
    rw [if_pos (mm A.1 (dsm B'))]; rfl
  have m2 : ∀ S, binR .mul (I b.num) (I a.den) S = .ok (I (b.num * a.den)) S := fun S => by
    show liftP S (if mulOk b.num a.den = true then some (P.int (b.num * a.den)) else none) = _
    rw [if_pos (mm B'.1 (dsm A))]; rfl
  have s4 : evC (ev G (evF G (k + 7)) (N0 + 39)) G.rs (.setT [6, 7] [(.bin .mul (.ix (.v 1) (.k (.int 0))) (.ix (.v 2) (.k (.int 1)))), (.bin .mul (.ix (.v 2) (.k (.int 0))) (.ix (.v 1) (.k (.int 1))))]) [some (.ref n), some (Q a), some (Q b), some (Q c), some T, y3, none, none, none, none, none, none, none, none] S3 = .nx [some (.ref n), some (Q a), some (Q b), some (Q c), some T, y3, some (I (a.num * b.den)), some (I (b.num * a.den)), none, none, none, none, none, none] S3 := by
    simp only [q_setT, q_evE, q_bin, q_ix, q_es, q_es0, q_v, q_k, List.getElem?_cons_zero, List.getElem?_cons_succ, q_ok, ix0, ix1, m1, m2, q_fl]
    rfl
  have s5 := iff_ok k (b := [(.ret (.k (.bl false)))]) (c := []) (st5 k ha hb S3 (some (.ref n)) (some (Q c)) (some T) y3 none none none none none none)
  have s6 := iff_ok k (b := [(.ret (.k (.bl false)))]) (c := []) (st6 k ha hb hc S3 (L := [some (.ref n), some (Q a), some (Q b), some (Q c), some T, y3, some (I (a.num * b.den)), some (I (b.num * a.den)), none, none, none, none, none, none]) rfl rfl rfl)
  have s7 : evC (ev G (evF G (k + 7)) (N0 + 39)) G.rs (.setT [8, 5] [(.lc false [11] (.n 11) .rng1 [(.call 20 [(.v 0), (.k (.int 6))])] none (.call 27 [(.v 0)])), (.tup [(.k (.int 0)), (.k (.int 1))])]) [some (.ref n), some (Q a), some (Q b), some (Q c), some T, y3, some (I (a.num * b.den)), some (I (b.num * a.den)), none, none, none, none, none, none] S3 = .nx [some (.ref n), some (Q a), some (Q b), some (Q c), some T, some (Q 0), some (I (a.num * b.den)), some (I (b.num * a.den)), some (.p (.lst (qs.map qp))), none, none, none, none, none] S5 := by
    have wk : walkR .rng1 [I v] S4 = .ok (iota 0 v.toNat) S4 := by
      show lift S4 (if inR v = true then some (iota 0 v.toNat) else none) = _
      rw [if_pos (inR6 v0 (by omega))]
      rfl
    have ll : (qs.map qp).length < line := by rw [List.length_map]; show _ < 16777216; omega
    have e1 : evE (evF G (k + 7)) (ev G (evF G (k + 7)) (N0 + 38)) (.lc false [11] (.n 11) .rng1 [(.call 20 [(.v 0), (.k (.int 6))])] none (.call 27 [(.v 0)])) [some (.ref n), some (Q a), some (Q b), some (Q c), some T, y3, some (I (a.num * b.den)), some (I (b.num * a.den)), none, none, none, none, none, none] S3 = .ok (.p (.lst (qs.map qp))) S5 := by
      rw [q_lc]
      have ar : evs (ev G (evF G (k + 7)) (N0 + 38)) [(.call 20 [(.v 0), (.k (.int 6))])] [some (.ref n), some (Q a), some (Q b), some (Q c), some T, y3, some (I (a.num * b.den)), some (I (b.num * a.den)), none, none, none, none, none, none] S3 = .ok [I v] S4 := by
        simp only [q_evE, q_call, q_es, q_es0, q_v, q_k, List.getElem?_cons_zero, q_ok, cd_ref, r4]
      rw [ar, q_ok, wk, q_ok, hz, r5, q_noex, q_ok, if_pos ll, if_neg Bool.false_ne_true]
    have t1 : tupR [I 0, I 1] S5 = .ok (Q 0) S5 := by
      show _ = Mn.R.ok (D.p (qp 0)) S5
      rw [qp0]
      rfl
    rw [q_setT, q_es, q_evE, e1, q_ok]
    simp only [q_evE, q_tup, q_es, q_es0, q_k, q_ok, t1, q_fl]
    rfl
  obtain ⟨y9, e8⟩ := lp8 k S5 (some (.ref n)) (some (Q a)) (some (Q b)) (some (Q c)) (some T) (some (I (a.num * b.den))) (some (I (b.num * a.den))) (some (.p (.lst (qs.map qp)))) none none none none qs 0 1 none sz0 hq hl
  have s8 : evC (ev G (evF G (k + 7)) (N0 + 39)) G.rs (.fo (.n 9) .it [(.v 8)] [(.set 5 (.call 23 [(.v 5), (.v 9)]))]) [some (.ref n), some (Q a), some (Q b), some (Q c), some T, some (Q 0), some (I (a.num * b.den)), some (I (b.num * a.den)), some (.p (.lst (qs.map qp))), none, none, none, none, none] S5 = .nx [some (.ref n), some (Q a), some (Q b), some (Q c), some T, some (Q (sumR 0 qs)), some (I (a.num * b.den)), some (I (b.num * a.den)), some (.p (.lst (qs.map qp))), y9, none, none, none, none] S5 := by
    have wk : walkR .it [.p (.lst (qs.map qp))] S5 = .ok (qs.map qp) S5 := rfl
    have ar : evs (ev G (evF G (k + 7)) (N0 + 39)) [(.v 8)] [some (.ref n), some (Q a), some (Q b), some (Q c), some T, some (Q 0), some (I (a.num * b.den)), some (I (b.num * a.den)), some (.p (.lst (qs.map qp))), none, none, none, none, none] S5 = .ok [.p (.lst (qs.map qp))] S5 := by
      simp only [q_evE, q_es, q_es0, q_v, List.getElem?_cons_zero, List.getElem?_cons_succ, q_ok]
    rw [q_fo, ar, q_ok, wk, q_fl]
    exact e8
  have s9 := iff_ok k (b := [(.ret (.k (.bl false)))]) (c := []) (st9 k hq hl S5 (L := [some (.ref n), some (Q a), some (Q b), some (Q c), some T, some (Q (sumR 0 qs)), some (I (a.num * b.den)), some (I (b.num * a.den)), some (.p (.lst (qs.map qp))), y9, none, none, none, none]) rfl rfl)
  have s10 : evC (ev G (evF G (k + 7)) (N0 + 39)) G.rs (.setT [10, 5] [(.call 20 [(.v 0), (.k (.int 7))]), (.tup [(.k (.int 1)), (.k (.int 1))])]) [some (.ref n), some (Q a), some (Q b), some (Q c), some T, some (Q (sumR 0 qs)), some (I (a.num * b.den)), some (I (b.num * a.den)), some (.p (.lst (qs.map qp))), y9, none, none, none, none] S5 = .nx [some (.ref n), some (Q a), some (Q b), some (Q c), some T, some (Q 1), some (I (a.num * b.den)), some (I (b.num * a.den)), some (.p (.lst (qs.map qp))), y9, some (I wn), none, none, none] S6 := by
    have t1 : tupR [I 1, I 1] S6 = .ok (Q 1) S6 := by
      show _ = Mn.R.ok (D.p (qp 1)) S6
      rw [qp1]
      rfl
    simp only [q_setT, q_evE, q_call, q_tup, q_es, q_es0, q_v, q_k, List.getElem?_cons_zero, q_ok, cd_ref, r6, t1, q_fl]
    rfl
  obtain ⟨y11, e11⟩ := lp12 k S6 ha (some (.ref n)) (some (Q b)) (some (Q c)) (some T) (some (I (a.num * b.den))) (some (I (b.num * a.den))) (some (.p (.lst (qs.map qp)))) y9 (some (I wn)) none none wn 0 1 1 none sz1 (by have hB : (B : Nat) = 1900 := rfl; omega) (by decide)
  have s11 : evC (ev G (evF G (k + 7)) (N0 + 39)) G.rs (.fo (.n 11) .rng1 [(.v 10)] [(.set 5 (.call 24 [(.v 5), (.v 1)]))]) [some (.ref n), some (Q a), some (Q b), some (Q c), some T, some (Q 1), some (I (a.num * b.den)), some (I (b.num * a.den)), some (.p (.lst (qs.map qp))), y9, some (I wn), none, none, none] S6 = .nx [some (.ref n), some (Q a), some (Q b), some (Q c), some T, some (Q (powR a wn 1)), some (I (a.num * b.den)), some (I (b.num * a.den)), some (.p (.lst (qs.map qp))), y9, some (I wn), y11, none, none] S6 := by
    have wk : walkR .rng1 [I wn] S6 = .ok (iota 0 wn) S6 := by
      show lift S6 (if inR (wn : Int) = true then some (iota 0 (wn : Int).toNat) else none) = _
      rw [if_pos (inR60 wn (by omega))]
      rfl
    have ar : evs (ev G (evF G (k + 7)) (N0 + 39)) [(.v 10)] [some (.ref n), some (Q a), some (Q b), some (Q c), some T, some (Q 1), some (I (a.num * b.den)), some (I (b.num * a.den)), some (.p (.lst (qs.map qp))), y9, some (I wn), none, none, none] S6 = .ok [I wn] S6 := by
      simp only [q_evE, q_es, q_es0, q_v, List.getElem?_cons_zero, List.getElem?_cons_succ, q_ok]
    rw [q_fo, ar, q_ok, wk, q_fl]
    exact e11
  have s12 := iff_ok k (b := [(.ret (.k (.bl false)))]) (c := []) (st12 k ha (m := wn) (by omega) S6 (L := [some (.ref n), some (Q a), some (Q b), some (Q c), some T, some (Q (powR a wn 1)), some (I (a.num * b.den)), some (I (b.num * a.den)), some (.p (.lst (qs.map qp))), y9, some (I wn), y11, none, none]) rfl rfl rfl)
  have s13 : evC (ev G (evF G (k + 7)) (N0 + 39)) G.rs (.setT [12, 13] [(.call 21 [(.v 0), (.lst false [(.k (.int 0)), (.call 26 [(.v 0)])])]), (.call 26 [(.v 0)])]) [some (.ref n), some (Q a), some (Q b), some (Q c), some T, some (Q (powR a wn 1)), some (I (a.num * b.den)), some (I (b.num * a.den)), some (.p (.lst (qs.map qp))), y9, some (I wn), y11, none, none] S6 = .nx [some (.ref n), some (Q a), some (Q b), some (Q c), some T, some (Q (powR a wn 1)), some (I (a.num * b.den)), some (I (b.num * a.den)), some (.p (.lst (qs.map qp))), y9, some (I wn), y11, some (I t), some (I z)] S9 := by
    have t1 : lstR false [I 0, I i0] S7 = .ok (.p (.lst [P.int 0, .int i0])) S7 := rfl
    simp only [q_setT, q_evE, q_call, q_lst, q_es, q_es0, q_v, q_k, List.getElem?_cons_zero, q_ok, cd_ref, r7, t1, r8, r9, q_fl]
    rfl
  have s14 := ret_and k (st14 k z1 ht z2 S9 (L := [some (.ref n), some (Q a), some (Q b), some (Q c), some T, some (Q (powR a wn 1)), some (I (a.num * b.den)), some (I (b.num * a.den)), some (.p (.lst (qs.map qp))), y9, some (I wn), y11, some (I t), some (I z)]) rfl rfl)
  rw [runF (k + 7) 28 [.ref n] S g28 rfl rfl]
  show endR (evCs _ _ [_, _, _, _, _, _, _, _, _, _, _, _, _, _, _] [some (.ref n), none, none, none, none, none, none, none, none, none, none, none, none, none] S) = _
  rw [q_cons, s0, q_thn, q_cons, s1, q_thn, q_cons, s2, q_thn, q_cons, e3, q_thn, q_cons, s4, q_thn, q_cons, s5, q_thn, q_cons, s6, q_thn, q_cons, s7, q_thn, q_cons, s8, q_thn, q_cons, s9, q_thn, q_cons, s10, q_thn, q_cons, s11, q_thn, q_cons, s12, q_thn, q_cons, s13, q_thn, q_cons, s14, q_tht, q_end]
end
end Lw21
namespace Lw21
open PySem Mn
section
variable (k : Nat)
theorem c19 (ns : List Int) {i : Int} (h0 : 0 ≤ i) (h1 : i < 100) (S : Sto) : ∃ g s : Int, evF G (k + 1) 19 [.p (.scr ns), I i] S = .ok (.ref S.length) (S ++ [.lst [I g, I s, I 0]]) ∧ 0 ≤ g ∧ s.natAbs < 2 ^ 100 := by
  have m0 : mulOk 131 i = true := mul_ok (a := 8) (b := 7) (by decide) (by omega) (by decide)
  have m1 : mulOk 619 i = true := mul_ok (a := 10) (b := 7) (by decide) (by omega) (by decide)
  have sub : ∃ c : Int, evE (evF G k) (ev G (evF G k) (N0 + 38)) (.ite (.cmp .lt (.v 1) (.bi .len [(.v 0)])) (.bi .int [(.ix (.v 0) (.v 1))]) (.bin .add (.bin .mul (.k (.int 131)) (.v 1)) (.k (.int 37)))) [some (.p (.scr ns)), some (I i), none, none, none] S = .ok (I c) S := by
    have t1 : biR .len [.p (.scr ns)] S = .ok (I ns.length) S := rfl
    have t2 : ∀ x y S, cmpR .lt (I x) (I y) S = .ok (.p (.bl (decide (x < y)))) S := fun _ _ _ => rfl
    by_cases hi : i < ns.length
    · have hx : ixN ns.length i = some i.toNat := by
        unfold ixN
        rw [if_pos h0, if_pos hi]
      have hn : i.toNat < ns.length := by omega
      refine ⟨ns[i.toNat], ?_⟩
      have t3 : ixR (.p (.scr ns)) (I i) S = .ok (I ns[i.toNat]) S := by
        show liftP S ((ixN ns.length i).bind fun j => (ns[j]?).map .int) = _
        rw [hx]
        show liftP S ((ns[i.toNat]?).map .int) = _
        rw [List.getElem?_eq_getElem hn]
        rfl
      have t4 : biR .int [I ns[i.toNat]] S = .ok (I ns[i.toNat]) S := rfl
      simp only [q_ite, q_evT, q_tcmp, q_cmp, q_evE, q_bi, q_ix, q_es, q_es0, q_v, List.getElem?_cons_zero, List.getElem?_cons_succ, q_ok, t1, t2, hi, decide_true, q_trub, if_pos, t3, t4]
    · refine ⟨131 * i + 37, ?_⟩
      have t3 : binR .mul (I 131) (I i) S = .ok (I (131 * i)) S := by
        show liftP S (if mulOk 131 i = true then some (P.int (131 * i)) else none) = _
        rw [if_pos m0]; rfl
      have t4 : binR .add (I (131 * i)) (I 37) S = .ok (I (131 * i + 37)) S := rfl
      simp only [q_ite, q_evT, q_tcmp, q_cmp, q_evE, q_bi, q_bin, q_ix, q_es, q_es0, q_v, q_k, List.getElem?_cons_zero, List.getElem?_cons_succ, q_ok, t1, t2, hi, decide_false, q_trub, if_neg, Bool.false_ne_true, not_false_iff, t3, t4]
      rfl
  obtain ⟨c, e0⟩ := sub
  obtain ⟨M, hM, M0⟩ : ∃ M : Int, M = (10 ^ 53) ^ 6 ∧ 0 < M := ⟨_, rfl, by decide⟩
  have p1 : ∀ S, binR .pow (I 10) (I 53) S = .ok (I (10 ^ 53)) S := fun S => rfl
  have p2 : ∀ S, binR .pow (I (10 ^ 53)) (I 6) S = .ok (I M) S := fun S => by rw [hM]; rfl
  have p3 : ∀ S, binR .pow (I 10) (I 16) S = .ok (I (10 ^ 16)) S := fun S => rfl
  have t1 : biR .abs [I c] S = .ok (I c.natAbs) S := by
    show liftP S (abs1 (.int c)) = _
    rw [abs1_eq]; rfl
  have t2 : ∀ x, biR .int [I x] S = .ok (I x) S := fun _ => rfl
  generalize hw : (c.natAbs : Int) % M = w
  have w0 : 0 ≤ w := by rw [← hw]; exact Int.emod_nonneg _ (by omega)
  have t3 : binR .mod (I c.natAbs) (I M) S = .ok (I w) S := by
    show liftP S (if 0 < M then some (P.int ((c.natAbs : Int) % M)) else none) = _
    rw [if_pos M0, hw]; rfl
  generalize hu : w % 2305843009213693907 = u
  have u0 : 0 ≤ u := by rw [← hu]; exact Int.emod_nonneg _ (by decide)
  have u1 : u < 2305843009213693907 := by rw [← hu]; exact Int.emod_lt_of_pos _ (by decide)
  have t4 : binR .mod (I w) (I 2305843009213693907) S = .ok (I u) S := by
    show liftP S (if (0 : Int) < 2305843009213693907 then some (P.int (w % 2305843009213693907)) else none) = _
    rw [if_pos (by decide), hu]; rfl
  have t5 : binR .mul (I u) (I 73) S = .ok (I (u * 73)) S := by
    show liftP S (if mulOk u 73 = true then some (P.int (u * 73)) else none) = _
    rw [if_pos (mul_ok (a := 62) (b := 7) (by omega) (by decide) (by decide))]; rfl
  have t6 : binR .mul (I 619) (I i) S = .ok (I (619 * i)) S := by
    show liftP S (if mulOk 619 i = true then some (P.int (619 * i)) else none) = _
    rw [if_pos m1]; rfl
  obtain ⟨q, hq, q0, q1⟩ : ∃ q : Int, q = (if decide (c < 0) = true then (1 : Int) else 0) ∧ 0 ≤ q ∧ q ≤ 1 := ⟨_, rfl, by split <;> omega, by split <;> omega⟩
  have t7 : cmpR .lt (I c) (I 0) S = .ok (.p (.bl (decide (c < 0)))) S := rfl
  have t8 : biR .int [.p (.bl (decide (c < 0)))] S = .ok (I q) S := by rw [hq]; rfl
  have t9 : binR .mul (I 41) (I q) S = .ok (I (41 * q)) S := by
    show liftP S (if mulOk 41 q = true then some (P.int (41 * q)) else none) = _
    rw [if_pos (mul_ok (a := 6) (b := 1) (by decide) (by omega) (by decide))]; rfl
  have ta : ∀ x y, binR .add (I x) (I y) S = .ok (I (x + y)) S := fun _ _ => rfl
  have ts : binR .sub (I w) (I (10 ^ 16)) S = .ok (I (w - 10 ^ 16)) S := rfl
  obtain ⟨g, hg, g0⟩ : ∃ g : Int, g = (if w - 10 ^ 16 > 0 then w - 10 ^ 16 else 0) ∧ 0 ≤ g := ⟨_, rfl, by split <;> omega⟩
  have tm : biR .max [I 0, I (w - 10 ^ 16)] S = .ok (I g) S := by rw [hg]; rfl
  refine ⟨g, u * 73 + 619 * i + 41 * q + 17, ?_, g0, by omega⟩
  have tl : lstR true [I g, I (u * 73 + 619 * i + 41 * q + 17), I 0] S = .ok (.ref S.length) (S ++ [.lst [I g, I (u * 73 + 619 * i + 41 * q + 17), I 0]]) := rfl
  have f1 : evC (ev G (evF G k) (N0 + 39)) G.rs (.set 2 (.ite (.cmp .lt (.v 1) (.bi .len [(.v 0)])) (.bi .int [(.ix (.v 0) (.v 1))]) (.bin .add (.bin .mul (.k (.int 131)) (.v 1)) (.k (.int 37))))) [some (.p (.scr ns)), some (I i), none, none, none] S = .nx [some (.p (.scr ns)), some (I i), some (I c), none, none] S := by
    rw [q_set, q_evE, e0, q_fl]
    rfl
  have f2 : evC (ev G (evF G k) (N0 + 39)) G.rs (.set 3 (.bin .mod (.bi .int [(.bi .abs [(.v 2)])]) (.bin .pow (.bin .pow (.k (.int 10)) (.k (.int 53))) (.k (.int 6))))) [some (.p (.scr ns)), some (I i), some (I c), none, none] S = .nx [some (.p (.scr ns)), some (I i), some (I c), some (I w), none] S := by
    rw [q_set]
    simp only [q_evE, q_bin, q_bi, q_es, q_es0, q_v, q_k, List.getElem?_cons_zero, List.getElem?_cons_succ, q_ok, p1, p2, t1, t2, t3, q_fl]
    rfl
  have f3 : evC (ev G (evF G k) (N0 + 39)) G.rs (.set 4 (.bin .add (.bin .add (.bin .add (.bin .mul (.bin .mod (.v 3) (.k (.int 2305843009213693907))) (.k (.int 73))) (.bin .mul (.k (.int 619)) (.v 1))) (.bin .mul (.k (.int 41)) (.bi .int [(.cmp .lt (.v 2) (.k (.int 0)))]))) (.k (.int 17)))) [some (.p (.scr ns)), some (I i), some (I c), some (I w), none] S = .nx [some (.p (.scr ns)), some (I i), some (I c), some (I w), some (I (u * 73 + 619 * i + 41 * q + 17))] S := by
    rw [q_set]
    simp only [q_evE, q_bin, q_bi, q_cmp, q_es, q_es0, q_v, q_k, List.getElem?_cons_zero, List.getElem?_cons_succ, q_ok, t4, t5, t6, t7, t8, t9, ta, q_fl]
    rfl
  have f4 : evC (ev G (evF G k) (N0 + 39)) G.rs (.ret (.lst true [(.bi .max [(.k (.int 0)), (.bin .sub (.v 3) (.bin .pow (.k (.int 10)) (.k (.int 16))))]), (.v 4), (.k (.int 0))])) [some (.p (.scr ns)), some (I i), some (I c), some (I w), some (I (u * 73 + 619 * i + 41 * q + 17))] S = .rt (.ref S.length) (S ++ [.lst [I g, I (u * 73 + 619 * i + 41 * q + 17), I 0]]) := by
    rw [q_ret]
    simp only [q_evE, q_lst, q_bin, q_bi, q_es, q_es0, q_v, q_k, List.getElem?_cons_zero, List.getElem?_cons_succ, q_ok, p3, ts, tm, tl, q_fl]
  rw [runF k 19 [.p (.scr ns), I i] S g19 rfl rfl]
  show endR (evCs _ _ [_, _, _, _] [some (.p (.scr ns)), some (I i), none, none, none] S) = _
  rw [q_cons, f1, q_thn, q_cons, f2, q_thn, q_cons, f3, q_thn, q_cons, f4, q_tht, q_end]
theorem inner (l0 l1 l4 l5 : Option D) (n : Nat) : ∀ (j : Nat) (lo : Int) (S : Sto) (m : Nat) (x : Option D), Dc S n m → m + 100 * j < 2 ^ 60 →
    ∃ S' y, foP (ev G (evF G (k + 8)) (N0 + 38)) (.n 3) [(.ite (.not (.call 28 [(.v 2)])) [(.ret (.k (.bl false)))] [])] (iota lo j) [l0, l1, some (.ref n), x, l4, l5] S = .nx [l0, l1, some (.ref n), y, l4, l5] S'
  | 0, lo, S, m, x, _, _ => ⟨S, x, rfl⟩
  | j + 1, lo, S, m, x, d, hm => by
    obtain ⟨S1, r, d1, _⟩ := c28 k S d (by omega)
    obtain ⟨S2, y, e1⟩ := inner l0 l1 l4 l5 n j (lo + 1) S1 (m + 100) (some (I lo)) d1 (by omega)
    refine ⟨S2, y, ?_⟩
    show foP _ _ _ (.int lo :: iota (lo + 1) j) _ _ = _
    rw [q_fo1]
    have ea : asg (.n 3) (.p (.int lo)) [l0, l1, some (.ref n), x, l4, l5] = some [l0, l1, some (.ref n), some (I lo), l4, l5] := rfl
    rw [ea]
    dsimp only
    have t : (ev G (evF G (k + 8)) (N0 + 37)).t (.not (.call 28 [(.v 2)])) [l0, l1, some (.ref n), some (I lo), l4, l5] S = .ok false S1 := by
      simp only [q_evT, q_tnot, q_tcall, q_call, q_evE, q_es, q_es0, q_v, List.getElem?_cons_zero, List.getElem?_cons_succ, q_ok, cd_ref, r, q_trub]
      rfl
    have e2 : (ev G (evF G (k + 8)) (N0 + 38)).c [(.ite (.not (.call 28 [(.v 2)])) [(.ret (.k (.bl false)))] [])] [l0, l1, some (.ref n), some (I lo), l4, l5] S = .nx [l0, l1, some (.ref n), some (I lo), l4, l5] S1 := by
      rw [q_evC, q_cons, q_cite, t, q_fl, if_neg Bool.false_ne_true, q_evC, q_nil, q_thn, q_nil]
    rw [e2]
    exact e1
theorem outer (ns : List Int) (l4 l5 : Option D) : ∀ (j : Nat) (lo : Int) (S : Sto) (x1 x2 x3 : Option D), 0 ≤ lo → lo + j < 100 →
    ∃ S' y1 y2 y3, foP (ev G (evF G (k + 8)) (N0 + 39)) (.n 1) [(.set 2 (.call 19 [(.v 0), (.v 1)])), (.fo (.n 3) .rng1 [(.k (.int 3))] [(.ite (.not (.call 28 [(.v 2)])) [(.ret (.k (.bl false)))] [])])] (iota lo j) [some (.p (.scr ns)), x1, x2, x3, l4, l5] S = .nx [some (.p (.scr ns)), y1, y2, y3, l4, l5] S'
  | 0, lo, S, x1, x2, x3, _, _ => ⟨S, x1, x2, x3, rfl⟩
  | j + 1, lo, S, x1, x2, x3, h0, h1 => by
    obtain ⟨g', s', r', _, _⟩ := c19 (k + 7) ns h0 (by omega) []
    obtain ⟨g, s, r, g0, s0⟩ := c19 (k + 7) ns h0 (by omega) S
    have d : Dc (S ++ [.lst [I g, I s, I 0]]) S.length 0 := ⟨g, s, 0, by rw [List.getElem?_append_right (Nat.le_refl _)]; simp, g0, Int.le_refl _, Int.le_refl _, s0⟩
    obtain ⟨S1, y3, e1⟩ := inner k (some (.p (.scr ns))) (some (I lo)) l4 l5 S.length 3 0 _ 0 x3 d (by decide)
    obtain ⟨S2, z1, z2, z3, e2⟩ := outer ns l4 l5 j (lo + 1) S1 (some (I lo)) (some (.ref S.length)) y3 (by omega) (by omega)
    refine ⟨S2, z1, z2, z3, ?_⟩
    show foP _ _ _ (.int lo :: iota (lo + 1) j) _ _ = _
    rw [q_fo1]
    have ea : asg (.n 1) (.p (.int lo)) [some (.p (.scr ns)), x1, x2, x3, l4, l5] = some [some (.p (.scr ns)), some (I lo), x2, x3, l4, l5] := rfl
    rw [ea]
    dsimp only
    have cd : callD (evF G (k + 8)) 19 [.p (.scr ns), I lo] S = .ok (.ref S.length) (S ++ [.lst [I g, I s, I 0]]) := by
      show (match evF G (k + 8) 19 [.p (.scr ns), I lo] [] with
        | .ok (.p x) _ => .ok (.p x) S
        | .ok (.ref _) _ => evF G (k + 8) 19 [.p (.scr ns), I lo] S
        | .ex x _ => .ex x S
        | .bad => .bad : Mn.R D) = _
      rw [r']
      exact r
    have wk : ∀ S, walkR .rng1 [I 3] S = .ok (iota 0 3) S := fun S => rfl
    have e3 : (ev G (evF G (k + 8)) (N0 + 39)).c [(.set 2 (.call 19 [(.v 0), (.v 1)])), (.fo (.n 3) .rng1 [(.k (.int 3))] [(.ite (.not (.call 28 [(.v 2)])) [(.ret (.k (.bl false)))] [])])] [some (.p (.scr ns)), some (I lo), x2, x3, l4, l5] S = .nx [some (.p (.scr ns)), some (I lo), some (.ref S.length), y3, l4, l5] S1 := by
      have f1 : evC (ev G (evF G (k + 8)) (N0 + 38)) G.rs (.set 2 (.call 19 [(.v 0), (.v 1)])) [some (.p (.scr ns)), some (I lo), x2, x3, l4, l5] S = .nx [some (.p (.scr ns)), some (I lo), some (.ref S.length), x3, l4, l5] (S ++ [.lst [I g, I s, I 0]]) := by
        simp only [q_set, q_evE, q_call, q_es, q_es0, q_v, List.getElem?_cons_zero, List.getElem?_cons_succ, q_ok, cd, q_fl]
        rfl
      have ar : ∀ L S, evs (ev G (evF G (k + 8)) (N0 + 38)) [(.k (.int 3))] L S = .ok [I 3] S := fun L S => by
        simp only [q_es, q_es0, q_evE, q_k, q_ok]
      rw [q_evC, q_cons, f1, q_thn, q_cons, q_fo, ar, q_ok, wk, q_fl, e1, q_thn, q_nil]
    rw [e3]
    exact e2
end
end Lw21
namespace Lw21
open PySem Mn
def gr : Rat := ⟨1000000000000000000000000000000000000000000000000000000000001, 100000000000000000000000000000000000000000000000000000000003, by decide +kernel, by decide +kernel⟩
def ot : Rat := ⟨1, 3, by decide, by decide⟩
def mh : Rat := ⟨-1, 2, by decide, by decide⟩
def mt : Rat := ⟨-1, 3, by decide, by decide⟩
def p60 : Rat := ⟨1, 1152921504606846976, by decide +kernel, by decide +kernel⟩
theorem pw60 : powR mh 60 1 = p60 := by decide +kernel
theorem szg : sz gr B := ⟨by decide +kernel, by decide +kernel⟩
theorem szo : sz ot B := ⟨by decide +kernel, by decide +kernel⟩
theorem szh : sz mh 2 := ⟨by decide, by decide⟩
theorem szt : sz mt B := ⟨by decide +kernel, by decide +kernel⟩
theorem fv1 : qp (Rat.divInt 1000000000000000000000000000000000000000 (-1000000000000000000000000000000000000000)) = .tup [.int (-1), .int 1] := by
  rw [← frP_eq (by decide)]
  rfl
theorem fv2 : qp (Rat.divInt (-6) 4) = .tup [.int (-3), .int 2] := by
  rw [← frP_eq (by decide)]
  rfl
abbrev T2 : P := .lst [.bl true, .bl true]
abbrev T4 : P := .lst [.tup [.int (-1), .int 1], .tup [.int (-3), .int 2], .tup [.int 0, .int 1], .int (-1)]
abbrev T6 : P := .lst [.bl true, .bl true, .tup [.int (-1), .int 1], .tup [.int (-3), .int 2], .tup [.int 0, .int 1], .int (-1)]
section
variable (k : Nat)
theorem c29 (ns : List Int) : ∃ S', evF G (k + 9) 29 [.p (.scr ns)] [] = .ok (.p (.bl true)) S' := by
  obtain ⟨c, hc, c1, c2⟩ : ∃ c : Int, c = (if (if (ns.length : Int) < 6 then (ns.length : Int) else 6) > 1 then (if (ns.length : Int) < 6 then (ns.length : Int) else 6) else 1) ∧ 1 ≤ c ∧ c ≤ 6 := ⟨_, rfl, by split <;> omega, by split <;> split <;> omega⟩
  have S : Sto := []
  obtain ⟨S1, y1, y2, y3, o1⟩ := outer k ns none none c.toNat 0 [] none none none (Int.le_refl _) (by omega)
  have lt : ∀ S, biR .len [.p (.scr ns)] S = .ok (I ns.length) S := fun S => rfl
  have mn : ∀ S, biR .min [I 6, I ns.length] S = .ok (I (if (ns.length : Int) < 6 then (ns.length : Int) else 6)) S := fun S => rfl
  have mx : ∀ S, biR .max [I 1, I (if (ns.length : Int) < 6 then (ns.length : Int) else 6)] S = .ok (I c) S := fun S => by rw [hc]; rfl
  have wk : ∀ S, walkR .rng1 [I c] S = .ok (iota 0 c.toNat) S := fun S => by
    show lift S (if inR c = true then some (iota 0 c.toNat) else none) = _
    rw [if_pos (inR6 (by omega) (by omega))]
    rfl
  have f0 : evC (ev G (evF G (k + 8)) (N0 + 39)) G.rs (.fo (.n 1) .rng1 [(.bi .max [(.k (.int 1)), (.bi .min [(.k (.int 6)), (.bi .len [(.v 0)])])])] [(.set 2 (.call 19 [(.v 0), (.v 1)])), (.fo (.n 3) .rng1 [(.k (.int 3))] [(.ite (.not (.call 28 [(.v 2)])) [(.ret (.k (.bl false)))] [])])]) [some (.p (.scr ns)), none, none, none, none, none] [] = .nx [some (.p (.scr ns)), y1, y2, y3, none, none] S1 := by
    have ar : evs (ev G (evF G (k + 8)) (N0 + 39)) [(.bi .max [(.k (.int 1)), (.bi .min [(.k (.int 6)), (.bi .len [(.v 0)])])])] [some (.p (.scr ns)), none, none, none, none, none] [] = .ok [I c] [] := by
      simp only [q_evE, q_bi, q_es, q_es0, q_v, q_k, List.getElem?_cons_zero, q_ok, lt, mn, mx]
    rw [q_fo, ar, q_ok, wk, q_fl]
    exact o1
  have w1 : binR .pow (I 10) (I 60) S1 = .ok (I 1000000000000000000000000000000000000000000000000000000000000) S1 := rfl
  have w2 : binR .pow (I 10) (I 59) S1 = .ok (I 100000000000000000000000000000000000000000000000000000000000) S1 := rfl
  have w3 : binR .add (I 1000000000000000000000000000000000000000000000000000000000000) (I 1) S1 = .ok (I 1000000000000000000000000000000000000000000000000000000000001) S1 := rfl
  have w4 : binR .add (I 100000000000000000000000000000000000000000000000000000000000) (I 3) S1 = .ok (I 100000000000000000000000000000000000000000000000000000000003) S1 := rfl
  have w5 : tupR [I 1000000000000000000000000000000000000000000000000000000000001, I 100000000000000000000000000000000000000000000000000000000003] S1 = .ok (Q gr) S1 := rfl
  have f1 : evC (ev G (evF G (k + 8)) (N0 + 39)) G.rs (.set 4 (.tup [(.bin .add (.bin .pow (.k (.int 10)) (.k (.int 60))) (.k (.int 1))), (.bin .add (.bin .pow (.k (.int 10)) (.k (.int 59))) (.k (.int 3)))])) [some (.p (.scr ns)), y1, y2, y3, none, none] S1 = .nx [some (.p (.scr ns)), y1, y2, y3, some (Q gr), none] S1 := by
    rw [q_set]
    simp only [q_evE, q_tup, q_bin, q_es, q_es0, q_k, q_ok, w1, w2, w3, w4, w5, q_fl]
    rfl
  have o3 : tupR [I 1, I 3] S1 = .ok (Q ot) S1 := rfl
  have h2 : tupR [I (-1), I 2] S1 = .ok (Q mh) S1 := rfl
  have h3 : tupR [I (-1), I 3] S1 = .ok (Q mt) S1 := rfl
  have pp : tupR [I 1, I 1152921504606846976] S1 = .ok (Q p60) S1 := rfl
  have ng : ∀ x, negR (I x) S1 = .ok (I (-x)) S1 := fun _ => rfl
  have q1 : callD (evF G (k + 8)) 12 [Q gr, Q ot] S1 = .ok (Q (gr + ot)) S1 := cd_p S1 rfl (Lw21.c12 (k + 4) [] szg szo)
  have q2 : callD (evF G (k + 8)) 23 [Q gr, Q ot] S1 = .ok (Q (gr + ot)) S1 := cd_p S1 rfl (c23 (k + 6) [] szg szo)
  have q3 : callD (evF G (k + 8)) 18 [Q mh, I 60] S1 = .ok (Q p60) S1 := by
    have := (c18 (k + 4) [] szh 60 (by decide) (by decide) (by decide)).1
    rw [pw60] at this
    exact cd_p S1 rfl this
  have lt2 : lstR false [.p (.bl true), .p (.bl true)] S1 = .ok (.p T2) S1 := rfl
  have f2 : evC (ev G (evF G (k + 8)) (N0 + 39)) G.rs (.set 5 (.lst false [(.cmp .eq (.call 12 [(.v 4), (.tup [(.k (.int 1)), (.k (.int 3))])]) (.call 23 [(.v 4), (.tup [(.k (.int 1)), (.k (.int 3))])])), (.cmp .eq (.call 18 [(.tup [(.neg (.k (.int 1))), (.k (.int 2))]), (.k (.int 60))]) (.tup [(.k (.int 1)), (.k (.int 1152921504606846976))]))])) [some (.p (.scr ns)), y1, y2, y3, some (Q gr), none] S1 = .nx [some (.p (.scr ns)), y1, y2, y3, some (Q gr), some (.p T2)] S1 := by
    rw [q_set]
    simp only [q_evE, q_lst, q_cmp, q_call, q_tup, q_neg, q_es, q_es0, q_v, q_k, List.getElem?_cons_zero, List.getElem?_cons_succ, q_ok, o3, h2, pp, ng, q1, q2, q3, eq_same, lt2, q_fl]
    rfl
  have w6 : binR .pow (I 10) (I 39) S1 = .ok (I 1000000000000000000000000000000000000000) S1 := rfl
  have q4 : callD (evF G (k + 8)) 4 [I 1000000000000000000000000000000000000000, I (-1000000000000000000000000000000000000000)] S1 = .ok (.p (.tup [.int (-1), .int 1])) S1 := by
    have := c4 (k + 5) [] (t := 1000000000000000000000000000000000000000) (b := -1000000000000000000000000000000000000000) (by decide) (by decide) (by decide)
    rw [show (Q (Rat.divInt 1000000000000000000000000000000000000000 (-1000000000000000000000000000000000000000))) = D.p (.tup [.int (-1), .int 1]) from congrArg D.p fv1] at this
    exact cd_p S1 rfl this
  have q5 : callD (evF G (k + 8)) 4 [I (-6), I 4] S1 = .ok (.p (.tup [.int (-3), .int 2])) S1 := by
    have := c4 (k + 5) [] (t := -6) (b := 4) (by decide) (by decide) (by decide)
    rw [show (Q (Rat.divInt (-6) 4)) = D.p (.tup [.int (-3), .int 2]) from congrArg D.p fv2] at this
    exact cd_p S1 rfl this
  have q6 : callD (evF G (k + 8)) 17 [.p (.tup [])] S1 = .ok (.p (.tup [.int 0, .int 1])) S1 := by
    have := c17 (k + 3) [] (qs := []) (fun r h => by cases h) (by decide)
    exact cd_p S1 rfl this
  have q7 : callD (evF G (k + 8)) 16 [Q mh, Q mt] S1 = .ok (I (-1)) S1 := by
    have := c16 (k + 4) [] (szh.mono (show 2 ≤ B by decide)) szt
    exact cd_p S1 rfl this
  have te : tupR [] S1 = .ok (.p (.tup [])) S1 := rfl
  have lt4 : lstR false [.p (.tup [.int (-1), .int 1]), .p (.tup [.int (-3), .int 2]), .p (.tup [.int 0, .int 1]), I (-1)] S1 = .ok (.p T4) S1 := rfl
  have ad : binR .add (.p T2) (.p T4) S1 = .ok (.p T6) S1 := rfl
  have f3 : evC (ev G (evF G (k + 8)) (N0 + 39)) G.rs (.set 5 (.bin .add (.v 5) (.lst false [(.call 4 [(.bin .pow (.k (.int 10)) (.k (.int 39))), (.neg (.bin .pow (.k (.int 10)) (.k (.int 39))))]), (.call 4 [(.neg (.k (.int 6))), (.k (.int 4))]), (.call 17 [(.tup [])]), (.call 16 [(.tup [(.neg (.k (.int 1))), (.k (.int 2))]), (.tup [(.neg (.k (.int 1))), (.k (.int 3))])])]))) [some (.p (.scr ns)), y1, y2, y3, some (Q gr), some (.p T2)] S1 = .nx [some (.p (.scr ns)), y1, y2, y3, some (Q gr), some (.p T6)] S1 := by
    rw [q_set]
    simp only [q_evE, q_lst, q_call, q_tup, q_bin, q_neg, q_es, q_es0, q_v, q_k, List.getElem?_cons_zero, List.getElem?_cons_succ, q_ok, w6, h2, h3, te, ng, q4, q5, q6, q7, lt4, ad, q_fl]
    rfl
  have t1 : tupR [I (-1), I 1] S1 = .ok (.p (.tup [.int (-1), .int 1])) S1 := rfl
  have t2 : tupR [I (-3), I 2] S1 = .ok (.p (.tup [.int (-3), .int 2])) S1 := rfl
  have t3 : tupR [I 0, I 1] S1 = .ok (.p (.tup [.int 0, .int 1])) S1 := rfl
  have t6 : lstR false [.p (.bl true), .p (.bl true), .p (.tup [.int (-1), .int 1]), .p (.tup [.int (-3), .int 2]), .p (.tup [.int 0, .int 1]), I (-1)] S1 = .ok (.p T6) S1 := rfl
  have eqT : cmpR .eq (.p T6) (.p T6) S1 = .ok (.p (.bl true)) S1 := by
    show evB (eqO T6 T6) S1 = _
    have : eqO T6 T6 = some true := by simp [eqO, eqD, dat, dats, toP, toPs, PyData.eqv, PyData.eqvAll]
    rw [this]
    rfl
  have f4 : evC (ev G (evF G (k + 8)) (N0 + 39)) G.rs (.ret (.cmp .eq (.v 5) (.lst false [(.k (.bl true)), (.k (.bl true)), (.tup [(.neg (.k (.int 1))), (.k (.int 1))]), (.tup [(.neg (.k (.int 3))), (.k (.int 2))]), (.tup [(.k (.int 0)), (.k (.int 1))]), (.neg (.k (.int 1)))]))) [some (.p (.scr ns)), y1, y2, y3, some (Q gr), some (.p T6)] S1 = .rt (.p (.bl true)) S1 := by
    rw [q_ret]
    simp only [q_evE, q_cmp, q_lst, q_tup, q_neg, q_es, q_es0, q_v, q_k, List.getElem?_cons_zero, List.getElem?_cons_succ, q_ok, ng, t1, t2, t3, t6, eqT, q_fl]
  refine ⟨S1, ?_⟩
  rw [runF (k + 8) 29 [.p (.scr ns)] [] g29 rfl rfl]
  show endR (evCs _ _ [_, _, _, _, _] [some (.p (.scr ns)), none, none, none, none, none] []) = _
  rw [q_cons, f0, q_thn, q_cons, f1, q_thn, q_cons, f2, q_thn, q_cons, f3, q_thn, q_cons, f4, q_tht, q_end]
end
def JJ : Nat := 9
theorem plain : ∀ ns : List Int, ns.length ≤ 63 → ∃ S, evF (progOf gc FF) JJ 29 [.p (.scr ns)] [] = .ok (.p (.bl true)) S := by
  intro ns _
  rw [G_eq]
  exact c29 0 ns
end Lw21
open PyProof.Rows PySem.Calls PySem.W PySem
theorem PySem.Challenge.cw_hushworks_k21_whole_numbers_holds : PySem.Challenge.rw_hushworks_k21_whole_numbers.Holds := by
  w_on; o_law
  refine HandSHeadRun.head_any (r := OpenLaw.row PySem.Challenge.rw_hushworks_k21_whole_numbers) (q := view (OpenLaw.row PySem.Challenge.rw_hushworks_k21_whole_numbers).prog [40]) (H := Lw21.hk) (ob := Lw21.ob) (M := Lw21.MM) (loose := Lw21.names) (d := HandSHeadRun.topDef (OpenLaw.row PySem.Challenge.rw_hushworks_k21_whole_numbers).prog 40) (kwd := []) Lw21.ob_eq
    (by kernel_rfl) (fun s => by kernel_rfl) Lw21.run (by kernel_rfl) (by kernel_rfl) (by kernel_rfl) (by rfl) (by first | assumption | decide +kernel) (by decide +kernel) ⟨rfl, rfl, rfl, rfl, rfl, by decide +kernel⟩ ?hw ?hc
  case hw => w_witness2
  case hc =>
    refine Mn.law_end (l := PySem.Challenge.rw_hushworks_k21_whole_numbers) (n := 63) (j := Lw21.JJ) (gc := Lw21.gc) (fu := Lw21.FF) (iL := 29) (fdL := Lw21.d29) (x := "script") rfl (by decide) (by kernel_rfl) ⟨rfl, by decide, by decide⟩ rfl rfl (by kernel_rfl) ?F Lw21.plain
    intro w mg h Y G
    obtain ⟨K, KX, c⟩ := Y
    obtain ⟨da, F⟩ := c.d.def_ 29 (d := Mn.ddOf Lw21.d29) rfl
    have wf := Lw21.wf KX G c
    exact ⟨K, _, da, KX, wf, Mn.df_none F (He.glo_ok KX G (c.d.fact 29 (f := .glo "law") rfl)) Lw21.s29 rfl Lw21.b29, Lw21.bA F⟩
