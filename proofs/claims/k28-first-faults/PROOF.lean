import PyProof.Rows.All
import PySem.Challenge.RW_hushworks_k28_whole_first_faults_of_work
import HandS.SortInts
import Wide.All
import OpenK.AllK
import Wide.FinOn
import HandS.ForMost
import HandS.Wide
import HandS.Exc
import HandS.Lambda
import HandS.Nested
import HandS.ExcField
import HandS.ExcOwn
import HandS.WordsExc
import HandS.TupAny
import HandS.IsInst
import HandS.Flow
import HandS.TupMul
import HandS.Dict
import HandS.More
import HandS.RaiseMore
import PyProof.StrLawsRepr
import HandS.Style
import HandS.Zip
import KE.GoesEnum
import HandS.Iter
import KE.KExcSuper
import PyProof.ReprRoads
import HandS.Ends
import HandS.ExcInit
import HandS.FStr
import HandS.TryMany
import HandS.Defaults
import HandS.Property
import HandS.Star
import HandS.HeadEnd
import HandS.Head0
import HandS.Head1
import HandS.Head2
import HandS.HeadHook1
import HandS.HeadHook2
import HandS.HeadHook4
import HandS.EndTab
import KE.KStateDown
set_option Elab.async false
set_option linter.all false
set_option maxRecDepth 100000
set_option maxHeartbeats 0
set_option exponentiation.threshold 10000
/-! Ms: sorting by insertion; what is sorted is so in one way alone. -/
namespace Mn
open PySem PySem.Spec PyProof.Rows
def insI (a : Int) : List Int → List Int
  | [] => [a]
  | b :: r => if a ≤ b then a :: b :: r else b :: insI a r
def sortI : List Int → List Int
  | [] => []
  | a :: r => insI a (sortI r)
theorem insI_perm (a : Int) : ∀ l, (insI a l).Perm (a :: l)
  | [] => .refl _
  | b :: r => by
    unfold insI
    split
    · exact .refl _
    · exact ((insI_perm a r).cons b).trans (.swap a b r)
theorem sortI_perm : ∀ l, (sortI l).Perm l
  | [] => .refl _
  | a :: r => (insI_perm a _).trans ((sortI_perm r).cons a)
theorem insI_sorted (a : Int) : ∀ l, l.Pairwise (· ≤ ·) → (insI a l).Pairwise (· ≤ ·)
  | [], _ => List.pairwise_singleton _ _
  | b :: r, h => by
    obtain ⟨h1, h2⟩ := List.pairwise_cons.mp h
    unfold insI
    split
    · rename_i hab
      refine List.pairwise_cons.mpr ⟨fun x hx => ?_, h⟩
      rcases List.mem_cons.mp hx with rfl | hx
      · exact hab
      · exact Int.le_trans hab (h1 x hx)
    · rename_i hab
      refine List.pairwise_cons.mpr ⟨fun x hx => ?_, insI_sorted a r h2⟩
      rcases List.mem_cons.mp ((insI_perm a r).mem_iff.mp hx) with rfl | hx
      · omega
      · exact h1 x hx
theorem sortI_sorted : ∀ l, (sortI l).Pairwise (· ≤ ·)
  | [] => .nil
  | a :: r => insI_sorted a _ (sortI_sorted r)
theorem sortI_only {l m : List Int} (p : m.Perm l) (s : m.Pairwise (· ≤ ·)) : m = sortI l :=
  List.Perm.eq_of_pairwise (fun a b _ _ h1 h2 => Int.le_antisymm h1 h2) s (sortI_sorted l) (p.trans (sortI_perm l).symm)
/-! ### texts -/
theorem ltc_irr : ∀ a : List Nat, ltCps a a = false
  | [] => rfl
  | a :: r => by
    unfold ltCps
    rw [ltc_irr r]
    simp
theorem ltc_tri : ∀ a b : List Nat, ltCps a b = true ∨ a = b ∨ ltCps b a = true
  | [], [] => .inr (.inl rfl)
  | [], _ :: _ => .inl rfl
  | _ :: _, [] => .inr (.inr rfl)
  | a :: r, b :: t => by
    simp only [ltCps, Bool.or_eq_true, Bool.and_eq_true, decide_eq_true_eq, beq_iff_eq]
    rcases Nat.lt_trichotomy a b with h | h | h
    · exact .inl (.inl h)
    · subst h
      rcases ltc_tri r t with q | q | q
      · exact .inl (.inr ⟨rfl, q⟩)
      · exact .inr (.inl (by rw [q]))
      · exact .inr (.inr (.inr ⟨rfl, q⟩))
    · exact .inr (.inr (.inl h))
theorem ltc_trans : ∀ {a b c : List Nat}, ltCps a b = true → ltCps b c = true → ltCps a c = true
  | _, [], [], _, h => by simp [ltCps] at h
  | [], _ :: _, [], _, h => by simp [ltCps] at h
  | [], _, _ :: _, _, _ => rfl
  | _ :: _, [], _ :: _, h, _ => by simp [ltCps] at h
  | _ :: _, _ :: _, [], _, h => by simp [ltCps] at h
  | a :: r, b :: t, c :: u, h1, h2 => by
    simp only [ltCps, Bool.or_eq_true, Bool.and_eq_true, decide_eq_true_eq, beq_iff_eq] at h1 h2 ⊢
    rcases h1 with h1 | ⟨rfl, h1⟩
    · rcases h2 with h2 | ⟨rfl, h2⟩
      · exact .inl (Nat.lt_trans h1 h2)
      · exact .inl h1
    · rcases h2 with h2 | ⟨rfl, h2⟩
      · exact .inl h2
      · exact .inr ⟨rfl, ltc_trans h1 h2⟩
/-- not behind -/
def leS (x y : Str) : Bool := !ltCps y.cps.toList x.cps.toList
theorem leS_trans {x y z : Str} (h1 : leS x y = true) (h2 : leS y z = true) : leS x z = true := by
  unfold leS at *
  rw [Bool.not_eq_true'] at *
  cases q : ltCps z.cps.toList x.cps.toList with
  | false => rfl
  | true =>
    rcases ltc_tri x.cps.toList y.cps.toList with h | h | h
    · rw [ltc_trans q h] at h2; cases h2
    · rw [h] at q; rw [q] at h2; cases h2
    · rw [h] at h1; cases h1
theorem leS_anti {x y : Str} (h1 : leS x y = true) (h2 : leS y x = true) : x = y := by
  unfold leS at *
  rw [Bool.not_eq_true'] at *
  rcases ltc_tri x.cps.toList y.cps.toList with h | h | h
  · rw [h] at h2; cases h2
  · cases x; cases y
    exact congrArg Str.mk (Array.toList_inj.mp h)
  · rw [h] at h1; cases h1
theorem leS_total (x y : Str) : leS x y = true ∨ leS y x = true := by
  unfold leS
  cases q : ltCps y.cps.toList x.cps.toList with
  | false => exact .inl rfl
  | true =>
    refine .inr ?_
    cases p : ltCps x.cps.toList y.cps.toList with
    | false => rfl
    | true =>
      have := ltc_trans q p
      rw [ltc_irr] at this
      cases this
def insS (a : Str) : List Str → List Str
  | [] => [a]
  | b :: r => if leS a b then a :: b :: r else b :: insS a r
def sortS : List Str → List Str
  | [] => []
  | a :: r => insS a (sortS r)
theorem insS_perm (a : Str) : ∀ l, (insS a l).Perm (a :: l)
  | [] => .refl _
  | b :: r => by
    unfold insS
    split
    · exact .refl _
    · exact ((insS_perm a r).cons b).trans (.swap a b r)
theorem sortS_perm : ∀ l, (sortS l).Perm l
  | [] => .refl _
  | a :: r => (insS_perm a _).trans ((sortS_perm r).cons a)
theorem insS_sorted (a : Str) : ∀ l, l.Pairwise (fun x y => leS x y = true) → (insS a l).Pairwise (fun x y => leS x y = true)
  | [], _ => List.pairwise_singleton _ _
  | b :: r, h => by
    obtain ⟨h1, h2⟩ := List.pairwise_cons.mp h
    unfold insS
    split
    · rename_i hab
      refine List.pairwise_cons.mpr ⟨fun x hx => ?_, h⟩
      rcases List.mem_cons.mp hx with rfl | hx
      · exact hab
      · exact leS_trans hab (h1 x hx)
    · rename_i hab
      refine List.pairwise_cons.mpr ⟨fun x hx => ?_, insS_sorted a r h2⟩
      rcases List.mem_cons.mp ((insS_perm a r).mem_iff.mp hx) with rfl | hx
      · exact (leS_total x b).resolve_left hab
      · exact h1 x hx
theorem sortS_sorted : ∀ l, (sortS l).Pairwise (fun x y => leS x y = true)
  | [] => .nil
  | a :: r => insS_sorted a _ (sortS_sorted r)
theorem rising_pair : ∀ (r : List Str) (p : Str), risingS p r = true → (p :: r).Pairwise (fun x y => leS x y = true)
  | [], p, _ => List.pairwise_singleton _ _
  | x :: r, p, h => by
    unfold risingS at h
    rw [Bool.and_eq_true] at h
    have ih := rising_pair r x h.2
    refine List.pairwise_cons.mpr ⟨fun y hy => ?_, ih⟩
    rcases List.mem_cons.mp hy with rfl | hy
    · exact h.1
    · exact leS_trans h.1 ((List.pairwise_cons.mp ih).1 y hy)
theorem sortS_only {l m : List Str} (p : m.Perm l) (s : sortedS m = true) : m = sortS l := by
  refine List.Perm.eq_of_pairwise (fun a b _ _ h1 h2 => leS_anti h1 h2) ?_ (sortS_sorted l) (p.trans (sortS_perm l).symm)
  cases m with
  | nil => exact .nil
  | cons x r => exact rising_pair r x s
end Mn
/-! Mn1: plain data, an intermediate form of defs, and its evaluator. -/
namespace Mn
open PySem

/-- data that stands still -/
inductive P where
  | non | bl (b : Bool) | int (i : Int) | str (x : Str)
  | tup (ps : List P) | lst (ps : List P)
  | dct (ks : List L2.Key) (ps : List P)
  | fn (f : Nat) | lamc (f : Nat) | scr (ns : List Int)
  | ins (c : Nat) (ns : List Str) (ps : List P)
  | unk
  deriving Inhabited

/-- a value: data, the n-th cell of the store, a lambda of the frame n (its captured slots), a lambda of another frame (what it captured) -/
inductive D where
  | p (x : P) | ref (n : Nat) | lam (f : Nat) (sl : List Nat) (n : Nat) | clo (f : Nat) (cs : List (Sum P Nat)) | dead | lams (ls : List (Nat × List Nat)) (n : Nat) | me
  deriving Inhabited

/-- what a cell holds -/
inductive MO where
  | lst (ds : List D)
  deriving Inhabited
abbrev Sto := List MO
abbrev Loc := List (Option D)

/-- an exception: its class by number, what it keeps -/
structure Ex where
  c : Nat
  fs : List (Str × P)

inductive R (α : Type) where
  | ok (a : α) (S : Sto)
  | ex (x : Ex) (S : Sto)
  | bad
def R.bind {α β : Type} : R α → (α → Sto → R β) → R β
  | .ok a S, f => f a S
  | .ex x S, _ => .ex x S
  | .bad, _ => .bad
/-- what a statement does -/
inductive Fl where
  | nx (L : Loc) (S : Sto)
  | rt (d : D) (S : Sto)
  | bk (L : Loc) (S : Sto)
  | ct (L : Loc) (S : Sto)
  | ex (x : Ex) (L : Loc) (S : Sto)
  | bad

/-! ### operators -/
inductive Bo where
  | add | sub | mul | fdiv | mod | pow
  deriving DecidableEq
inductive Co where
  | eq | ne | lt | le | gt | ge | is | isn | inn | nin
  deriving DecidableEq
inductive Bi where
  | len | abs | int | str | repr | all | any | tuple | list | sorted | max | min | sum
  deriving DecidableEq
inductive Ty where
  | int | bool | str | tuple | list | dict
  deriving DecidableEq
inductive Sk where
  | it | rng1 | rng2 | enum | zip | vals | items | keys
  deriving DecidableEq

inductive Tg where
  | n (i : Nat)
  | t (ts : List Tg)

inductive E where
  | v (i : Nat)
  | k (x : P)
  | bin (o : Bo) (a b : E)
  | neg (a : E)
  | not (a : E)
  | and (a b : E)
  | or (a b : E)
  | cmp (o : Co) (a b : E)
  | chain (o o' : Co) (a b c : E)
  | ite (t a b : E)
  | tup (es : List E)
  | lst (own : Bool) (es : List E)
  | call (f : Nat) (es : List E)
  | callB (f : Nat) (es : List E)
  | bi (b : Bi) (es : List E)
  | isi (T : Ty) (e : E)
  | ix (a b : E)
  | sl (a : E) (lo hi : Option E)
  | rev (a : E)
  | lc (own : Bool) (vs : List Nat) (tg : Tg) (s : Sk) (es : List E) (cond : Option E) (el : E)
  | lam (f : Nat) (sl : List Nat)
  | calL (i : Nat) (es : List E)
  | lcR (own : Bool) (vs : List Nat) (tg : Tg) (e : E) (el : E)
  | dct (ks : List L2.Key) (es : List E)
  | cat (a b : E)
  | fld (e : E) (f : Str)
  | isc (c : Nat) (e : E)
  | meth (m : Str) (e : E) (es : List E)
  | iso (ms : List Nat) (e : E)
  | lms (es : List E)
  | callK (f : Nat) (es : List E)
  | mk (c : Nat) (es : List E)
  | star (tup : Bool) (bs : List Bool) (es : List E)
  | dget (a k d : E)
  | cnt (a x : E)
  | idx (a x : E)
  | fst (x : Str) (e : E) (y : Str)
  | sortK (f : Nat) (e : E)

/-- what an except suite hands back: data, or a text and the repr of a field of the error -/
inductive Hd where
  | ret (x : P) | rep (i : Nat) (x : Str) (f : Str)
inductive C where
  | set (i : Nat) (e : E)
  | setT (is : List Nat) (es : List E)
  | unp (tg : Tg) (e : E)
  | setIx (o i e : E)
  | app (o e : E)
  | expr (e : E)
  | ret (e : E)
  | retN
  | ite (t : E) (a b : List C)
  | fo (tg : Tg) (s : Sk) (es : List E) (b : List C)
  | wh (t : E) (b : List C)
  | pass | brk | cont | bad
  | raise (c : Nat) (e : E)
  | tr (b : List C) (hs : List (Nat × Hd))

/-! ### plain data -/
mutual
def toP : P → PyData
  | .non => .none
  | .bl b => .bool b
  | .int i => .int i
  | .str x => .str x
  | .tup ps => .tuple (toPs ps)
  | .lst ps => .list (toPs ps)
  | .dct _ _ => .none
  | .fn _ => .none
  | .lamc _ => .none
  | .scr _ => .none
  | .ins _ _ _ => .none
  | .unk => .none
def toPs : List P → List PyData
  | [] => []
  | p :: ps => toP p :: toPs ps
end
/-- a text whose signs are signs -/
def okS (x : Str) : Bool := x.cps.toList.all fun c => Nat.blt c 0x110000
mutual
/-- data alone, at most so deep -/
def dat : Nat → P → Bool
  | _, .non => true
  | _, .bl _ => true
  | _, .int _ => true
  | _, .str x => okS x
  | 0, _ => false
  | n + 1, .tup ps => dats n ps
  | n + 1, .lst ps => dats n ps
  | _, .dct _ _ => false
  | _, .fn _ => false
  | _, .lamc _ => false
  | _, .scr _ => false
  | _, .ins _ _ _ => false
  | _, .unk => false
def dats : Nat → List P → Bool
  | _, [] => true
  | n, p :: ps => dat n p && dats n ps
end
mutual
/-- how long its text can be; 0 if it has none here -/
def txt : P → Option Nat
  | .non => some 4
  | .bl _ => some 5
  | .int i => if i.natAbs.log2 < 1920 then some 1921 else none
  | .str x => some (10 * x.length + 2)
  | .tup ps => (txts ps).map (· + 3)
  | .lst ps => (txts ps).map (· + 3)
  | .dct _ _ => none
  | .fn _ => none
  | .lamc _ => none
  | .scr _ => none
  | .ins _ _ _ => none
  | .unk => none
def txts : List P → Option Nat
  | [] => some 0
  | p :: ps => match txt p, txts ps with
    | some a, some b => some (a + 2 + b)
    | _, _ => none
end

def line : Nat := 16777216
def allP : List D → Option (List P)
  | [] => some []
  | .p x :: ds => (allP ds).map (x :: ·)
  | _ :: _ => none
/-- a value as data: a cell's list as it stands now -/
def der (S : Sto) : D → Option P
  | .p x => some x
  | .ref n => match S[n]? with
    | some (.lst ds) => (allP ds).map .lst
    | none => none
  | _ => none

def tru : P → Option Bool
  | .non => some false
  | .bl b => some b
  | .int i => some (i != 0)
  | .str x => if x.length ≤ line then some (x.length != 0) else none
  | .tup ps => some (!ps.isEmpty)
  | .lst ps => some (!ps.isEmpty)
  | _ => none
def eqD (a b : P) : Option Bool := if dat 64 a && dat 64 b then some (PyData.eqv (toP a) (toP b)) else none
def eqO : P → P → Option Bool
  | .str x, .str y => some (decide (x = y))
  | a, b => eqD a b
def mulOk (i j : Int) : Bool := Nat.blt (i.natAbs.log2 + j.natAbs.log2) 134217726
def fdivOk (i j : Int) : Bool := decide (0 < j) && !Builtin.divisionGoesByPylong i j
def powOk (i j : Int) : Bool := decide (0 ≤ j) && Nat.ble ((i.natAbs.log2 + 1) * j.toNat) 134217728
def bin : Bo → P → P → Option P
  | .add, .int i, .int j => some (.int (i + j))
  | .add, .str x, .str y => if x.length + y.length ≤ line then some (.str (x ++ y)) else none
  | .add, .tup xs, .tup ys => if xs.length + ys.length ≤ line then some (.tup (xs ++ ys)) else none
  | .add, .lst xs, .lst ys => if xs.length + ys.length ≤ line then some (.lst (xs ++ ys)) else none
  | .sub, .int i, .int j => some (.int (i - j))
  | .mul, .int i, .int j => if mulOk i j then some (.int (i * j)) else none
  | .mul, .lst xs, .int j => if decide (0 ≤ j) && decide (j < 2 ^ 62) && Nat.ble (xs.length * j.toNat) line then some (.lst (List.replicate j.toNat xs).flatten) else none
  | .mul, .tup xs, .int j => if !xs.isEmpty && decide (0 ≤ j) && decide (j ≤ 1000) && Nat.ble xs.length 1000 then some (.tup (List.replicate j.toNat xs).flatten) else none
  | .fdiv, .int i, .int j => if fdivOk i j then some (.int (i / j)) else none
  | .mod, .int i, .int j => if 0 < j then some (.int (i % j)) else none
  | .pow, .int i, .int j => if powOk i j then some (.int (i ^ j.toNat)) else none
  | _, _, _ => none
def ltS (x y : Str) : Bool := decide (x.cps.toList < y.cps.toList)
def isNon : P → Option Bool
  | .non => some true
  | .unk => none
  | _ => some false
/-- x in y -/
def inO : P → P → Option Bool
  | x, .tup ys => if dat 64 x && dats 63 ys then some ((toPs ys).any fun z => PyData.eqv z (toP x)) else none
  | x, .lst ys => if dat 64 x && dats 63 ys then some ((toPs ys).any fun z => PyData.eqv z (toP x)) else none
  | .str x, .str y => match x.cps.toList with
    | [c] => some (decide (c ∈ y.cps.toList))
    | _ => none
  | _, _ => none
def cmpo : Co → P → P → Option Bool
  | .eq, a, b => eqO a b
  | .ne, a, b => (eqO a b).map not
  | .lt, .int i, .int j => some (decide (i < j))
  | .le, .int i, .int j => some (decide (i ≤ j))
  | .gt, .int i, .int j => some (decide (j < i))
  | .ge, .int i, .int j => some (decide (j ≤ i))
  | .lt, .str i, .str j => some (ltS i j)
  | .le, .str i, .str j => some (!ltS j i)
  | .gt, .str i, .str j => some (ltS j i)
  | .ge, .str i, .str j => some (!ltS i j)
  | .is, a, .non => isNon a
  | .isn, a, .non => (isNon a).map not
  | .inn, a, b => inO a b
  | .nin, a, b => (inO a b).map not
  | _, _, _ => none
def ixN (n : Nat) (i : Int) : Option Nat := if 0 ≤ i then (if i < n then some i.toNat else none) else if -(n : Int) ≤ i then some (i + n).toNat else none
def item : P → P → Option P
  | .tup ps, .int i => (ixN ps.length i).bind fun j => ps[j]?
  | .lst ps, .int i => (ixN ps.length i).bind fun j => ps[j]?
  | .scr ns, .int i => (ixN ns.length i).bind fun j => (ns[j]?).map .int
  | .dct ks ps, .str x => ((ks.zip ps).find? fun kv => decide (kv.1 = Sum.inr x)).map (·.2)
  | .dct ks ps, .int x => ((ks.zip ps).find? fun kv => decide (kv.1 = Sum.inl x)).map (·.2)
  | .str x, .int i => if x.length ≤ line then (ixN x.cps.toList.length i).bind fun j => (x.cps.toList[j]?).map fun c => .str ⟨#[c]⟩ else none
  | _, _ => none
def bools : List P → Option (List Bool)
  | [] => some []
  | .bl b :: ps => (bools ps).map (b :: ·)
  | _ => none
def one (f : P → Option P) : List P → Option P
  | [x] => f x
  | _ => none
def two (f : P → P → Option P) : List P → Option P
  | [x, y] => f x y
  | _ => none
def len1 : P → Option P
  | .tup ps => some (.int ps.length)
  | .lst ps => some (.int ps.length)
  | .scr ns => some (.int ns.length)
  | .str x => if x.length ≤ line then some (.int x.length) else none
  | _ => none
def abs1 : P → Option P
  | .int i => some (.int (if i < 0 then -i else i))
  | _ => none
def int1 : P → Option P
  | .int i => some (.int i)
  | .bl b => some (.int (if b then 1 else 0))
  | _ => none
def str1 : P → Option P
  | .int i => if i.natAbs.log2 < 1920 then some (.str (toString i)) else none
  | .str x => some (.str x)
  | _ => none
def keyD : L2.Key → P
  | .inl i => .int i
  | .inr x => .str x
def scal1 : P → Bool
  | .non => true
  | .bl _ => true
  | .int _ => true
  | .str _ => true
  | _ => false
/-- a dict of scalars as data -/
def toDc (ks : List L2.Key) (ps : List P) : PyData := .dict ((toPs (ks.map keyD)).zip (toPs ps))
def reprD (ks : List L2.Key) (ps : List P) (m : Nat) : Option Str := if ps.all scal1 && (toDc ks ps).showable && Nat.ble ((toDc ks ps).shown.length + m) line then some (toDc ks ps).shown else none
def reprO (x : P) : Option P := match txt x with
  | some n => if dat 64 x && Nat.ble n line then some (.str (PyData.shown (toP x))) else none
  | none => none
def repr1 : P → Option P
  | .dct ks ps => (reprD ks ps 0).map .str
  | x => reprO x
/-- its text fits a message -/
def says : P → Bool
  | .dct ks ps => (reprD ks ps 1000).isSome
  | x => match txt x with
    | some n => dat 64 x && Nat.ble (n + 1000) line
    | none => false
def all1 : P → Option P
  | .lst ps => (bools ps).map fun bs => .bl (bs.all id)
  | _ => none
def any1 : P → Option P
  | .lst ps => (bools ps).map fun bs => .bl (bs.any id)
  | _ => none
def tuple1 : P → Option P
  | .lst ps => some (.tup ps)
  | .tup ps => some (.tup ps)
  | _ => none
def list1 : P → Option P
  | .lst ps => some (.lst ps)
  | .tup ps => some (.lst ps)
  | _ => none
def intsP : List P → Option (List Int)
  | [] => some []
  | .int i :: ps => (intsP ps).map (i :: ·)
  | _ => none
def strsP : List P → Option (List Str)
  | [] => some []
  | .str i :: ps => (strsP ps).map (i :: ·)
  | _ => none
def sorted1 : P → Option P
  | .lst ps => match intsP ps with
    | some ns => some (.lst ((sortI ns).map .int))
    | none => match strsP ps with
      | some xs => if xs.length < 64 then some (.lst ((sortS xs).map .str)) else none
      | none => none
  | _ => none
def max2 : P → P → Option P
  | .int i, .int j => some (.int (if j > i then j else i))
  | _, _ => none
def min2 : P → P → Option P
  | .int i, .int j => some (.int (if j < i then j else i))
  | _, _ => none
def blt : Bi → List P → Option P
  | .len, ps => one len1 ps
  | .abs, ps => one abs1 ps
  | .int, ps => one int1 ps
  | .str, ps => one str1 ps
  | .repr, ps => one repr1 ps
  | .all, ps => one all1 ps
  | .any, ps => one any1 ps
  | .tuple, ps => one tuple1 ps
  | .list, ps => one list1 ps
  | .sorted, ps => one sorted1 ps
  | .max, ps => two max2 ps
  | .min, ps => two min2 ps
  | _, _ => none
def isi : Ty → P → Option Bool
  | _, .non => some false
  | .bool, .bl _ => some true
  | .int, .bl _ => some true
  | _, .bl _ => some false
  | .int, .int _ => some true
  | _, .int _ => some false
  | .str, .str _ => some true
  | _, .str _ => some false
  | .tuple, .tup _ => some true
  | _, .tup _ => some false
  | .list, .lst _ => some true
  | _, .lst _ => some false
  | .dict, .dct _ _ => some true
  | _, .dct _ _ => some false
  | _, _ => none
def clamp (n d : Nat) : Option Int → Nat
  | none => d
  | some i => if i < 0 then (i + n).toNat else min i.toNat n
def cut {α : Type} (xs : List α) (lo hi : Option Int) : List α := (xs.drop (clamp xs.length 0 lo)).take (clamp xs.length xs.length hi - clamp xs.length 0 lo)
def slice : P → Option Int → Option Int → Option P
  | .tup ps, lo, hi => some (.tup (cut ps lo hi))
  | .lst ps, lo, hi => some (.lst (cut ps lo hi))
  | _, _, _ => none
/-- what a loop walks -/
def iota (lo : Int) : Nat → List P
  | 0 => []
  | n + 1 => .int lo :: iota (lo + 1) n
def enums (i : Int) : List P → List P
  | [] => []
  | p :: ps => .tup [.int i, p] :: enums (i + 1) ps
def zips : List P → List P → List P
  | p :: ps, q :: qs => .tup [p, q] :: zips ps qs
  | _, _ => []
def seqOf : P → Option (List P)
  | .tup ps => some ps
  | .lst ps => some ps
  | .scr ns => some (ns.map .int)
  | _ => none
def itOf : P → Option (List P)
  | .dct ks _ => some (ks.map keyD)
  | .str x => some (x.cps.toList.map fun c => .str ⟨#[c]⟩)
  | p => seqOf p
def inR (i : Int) : Bool := decide (-(2 ^ 62) ≤ i) && decide (i < 2 ^ 62)
def wIt : List P → Option (List P)
  | [x] => itOf x
  | _ => none
def wR1 : List P → Option (List P)
  | [.int j] => if inR j then some (iota 0 j.toNat) else none
  | _ => none
def wR2 : List P → Option (List P)
  | [.int i, .int j] => if inR i && inR j then some (iota i (j - i).toNat) else none
  | _ => none
def wEn : List P → Option (List P)
  | [.lst xs] => some (enums 0 xs)
  | [.tup xs] => some (enums 0 xs)
  | _ => none
def wVals : List P → Option (List P)
  | [.dct _ ps] => some ps
  | _ => none
def wItems : List P → Option (List P)
  | [.dct ks ps] => some (zips (ks.map keyD) ps)
  | _ => none
def wKeys : List P → Option (List P)
  | [.dct ks _] => some (ks.map keyD)
  | _ => none
def wZip : List P → Option (List P)
  | [.tup xs, .tup ys] => some (zips xs ys)
  | [.lst xs, .lst ys] => some (zips xs ys)
  | _ => none
def walk : Sk → List P → Option (List P)
  | .it => wIt
  | .rng1 => wR1
  | .rng2 => wR2
  | .enum => wEn
  | .zip => wZip
  | .vals => wVals
  | .items => wItems
  | .keys => wKeys

/-- a target takes a value -/
def setL (L : Loc) (i : Nat) (d : D) : Loc := L.set i (some d)
mutual
def asg : Tg → D → Loc → Option Loc
  | .n i, d, L => if i < L.length then some (setL L i d) else none
  | .t ts, .p (.tup ps), L => asgs ts ps L
  | .t _, _, _ => none
def asgs : List Tg → List P → Loc → Option Loc
  | [], [], L => some L
  | t :: ts, p :: ps, L => (asg t (.p p) L).bind (asgs ts ps)
  | _, _, _ => none
end
def wipeL (L : Loc) : List Nat → Loc
  | [] => L
  | v :: vs => (wipeL L vs).set v none
def setN : List Nat → List D → Loc → Option Loc
  | [], [], L => some L
  | i :: is, d :: ds, L => if i < L.length then setN is ds (setL L i d) else none
  | _, _, _ => none

/-! ### lambdas -/
def capD : Option (Option D) → Option (Sum P Nat)
  | some (some (.p x)) => some (.inl x)
  | some (some (.ref n)) => some (.inr n)
  | _ => none
def caps (L : Loc) : List Nat → Option (List (Sum P Nat))
  | [] => some []
  | i :: is => match capD L[i]?, caps L is with
    | some c, some cs => some (c :: cs)
    | _, _ => none
/-- what is handed on: a lambda of this frame with what it captured -/
def resD (fr : Nat) (L : Loc) : D → Option D
  | .lam f sl n => if n = fr then (caps L sl).map (.clo f) else none
  | .dead => none
  | .me => none
  | .lams _ _ => none
  | d => some d
def resDs (fr : Nat) (L : Loc) : List D → Option (List D)
  | [] => some []
  | d :: ds => match resD fr L d, resDs fr L ds with
    | some x, some xs => some (x :: xs)
    | _, _ => none
/-- may be called -/
def calB : D → Bool
  | .p (.fn _) => true
  | .p (.lamc _) => true
  | .lam _ _ _ => true
  | .clo _ _ => true
  | _ => false
/-- lambdas of the frame n, in a list -/
def lamsD (n : Nat) : List D → Option (List (Nat × List Nat))
  | [] => some []
  | .lam f (i :: sl) m :: ds => if Nat.beq m n then (lamsD n ds).map ((f, i :: sl) :: ·) else none
  | .p (.lamc f) :: ds => (lamsD n ds).map ((f, []) :: ·)
  | _ => none
/-- one of them, handed on -/
def lamC (L : Loc) : Nat × List Nat → Option D
  | (f, []) => some (.p (.lamc f))
  | (f, i :: sl) => (caps L (i :: sl)).map (.clo f)
/-- may be kept where only some names are looked at -/
def alo2 : D → Bool
  | .ref _ => false
  | .clo _ cs => cs.all fun c => match c with
    | .inl _ => true
    | .inr _ => false
  | _ => true
def maskD (b : Bool) : Option D → Option D
  | some d => if b && alo2 d then some d else none
  | none => none
def maskL (ms : List Nat) : Nat → Loc → Loc
  | _, [] => []
  | i, o :: L => maskD (ms.any (Nat.beq i)) o :: maskL ms (i + 1) L
/-- without what another frame's lambdas are -/
def noC : Option D → Option D
  | some .me => none
  | some (.clo _ _) => none
  | o => o
def noClo : Loc → Loc
  | [] => []
  | o :: L => noC o :: noClo L
def pureK : D → Bool
  | .p _ => true
  | .ref _ => true
  | .clo _ _ => true
  | _ => false
def pure1 : D → Bool
  | .p _ => true
  | .ref _ => true
  | _ => false
def capV : Sum P Nat → D
  | .inl x => .p x
  | .inr n => .ref n
def capP : Sum P Nat → Bool
  | .inl _ => true
  | .inr _ => false
/-- nothing of it leans on the store -/
def aloD : D → Bool
  | .p _ => true
  | .clo _ cs => cs.all capP
  | _ => false
/-- may lie in a list -/
def putD : D → Bool
  | .me => false
  | .clo _ _ => false
  | _ => true
/-- a frame is gone -/
def sanD (n : Nat) : D → D
  | .lam f sl m => if m = n then .dead else .lam f sl m
  | .lams ls m => if m = n then .dead else .lams ls m
  | d => d
def sanM (n : Nat) : MO → MO
  | .lst ds => .lst (ds.map (sanD n))
def san (n : Nat) (S : Sto) : Sto := S.map (sanM n)
def endD : D → Bool
  | .p _ => true
  | .ref _ => true
  | _ => false

/-! ### the evaluator -/
structure Ev where
  e : E → Loc → Sto → R D
  t : E → Loc → Sto → R Bool
  c : List C → Loc → Sto → Fl
  mt : Nat → Str → Option Nat
  pr : Nat → Str → Option (Sum Str Nat)
  mkt : Nat → Option Nat

def lift {α : Type} (S : Sto) : Option α → R α
  | some a => .ok a S
  | none => .bad
def liftP (S : Sto) (o : Option P) : R D := match o with
  | some x => .ok (.p x) S
  | none => .bad

section
variable (cal : Nat → List D → Sto → R D) (fr : Nat) (s : Ev)
/-- e as data -/
def evP (e : E) (L : Loc) (S : Sto) : R P := (s.e e L S).bind fun d S1 => lift S1 (der S1 d)
def evs : List E → Loc → Sto → R (List D)
  | [], _, S => .ok [] S
  | e :: es, L, S => (s.e e L S).bind fun d S1 => (evs es L S1).bind fun ds S2 => .ok (d :: ds) S2
/-- arguments read as data behind the last one -/
def ders (S : Sto) : List D → Option (List P)
  | [] => some []
  | d :: ds => match der S d, ders S ds with
    | some p, some ps => some (p :: ps)
    | _, _ => none
def evOpt : Option E → Loc → Sto → R (Option Int)
  | none, _, S => .ok none S
  | some e, L, S => (s.e e L S).bind fun d S1 => match d with
    | .p (.int i) => .ok (some i) S1
    | _ => .bad
def evB (o : Option Bool) (S : Sto) : R D := match o with
  | some b => .ok (.p (.bl b)) S
  | none => .bad
/-- a def called with the store -/
def callS (f : Nat) (ds : List D) (S : Sto) : R D := match cal f ds S with
  | .ok d S1 => if endD d then .ok d S1 else .bad
  | r => r
/-- a def called: alone, if nothing is handed to it that can change -/
def callD (f : Nat) (ds : List D) (S : Sto) : R D :=
  if ds.all aloD then match cal f ds [] with
    | .ok (.p x) _ => .ok (.p x) S
    | .ok (.ref _) _ => callS cal f ds S
    | .ok _ _ => .bad
    | .ex x _ => .ex x S
    | .bad => .bad
  else callS cal f ds S
/-- what is handed on, handed on -/
def callR (L : Loc) (f : Nat) (ds : List D) (S : Sto) : R D := match resDs fr L ds with
  | some ds' => callD cal f ds' S
  | none => .bad
def callB (f : Nat) (ds : List D) (S : Sto) : R D := if ds.all pure1 then callD cal f ds S else .bad
def callK (f : Nat) (ds : List D) (S : Sto) : R D := if ds.all pureK then callD cal f ds S else .bad
/-- what a name holds, called -/
def callL (L : Loc) (d : D) (ds : List D) (S : Sto) : R D := match resD fr L d, resDs fr L ds with
  | some (.p (.fn f)), some ds' => callD cal f ds' S
  | some (.p (.lamc f)), some ds' => callD cal f ds' S
  | some (.clo f cs), some ds' => callD cal f (ds' ++ cs.map capV) S
  | _, _ => .bad
/-- a comprehension's turns -/
def lcP (L : Loc) (tg : Tg) (cond : Option E) (el : E) : List P → Sto → R (List P)
  | [], S => .ok [] S
  | p :: ps, S => match asg tg (.p p) L with
    | none => .bad
    | some L1 => (match cond with
        | none => (R.ok true S : R Bool)
        | some c => s.t c L1 S).bind fun b S1 =>
      if b then (s.e el L1 S1).bind fun d S2 => match d with
        | .p x => (lcP L tg cond el ps S2).bind fun xs S3 => .ok (x :: xs) S3
        | _ => .bad
      else lcP L tg cond el ps S1
/-- .. over a list of lambdas of the frame: L0, the frame's names -/
def lcR (L0 L : Loc) (tg : Tg) (el : E) : List (Nat × List Nat) → Sto → R (List P)
  | [], S => .ok [] S
  | q :: qs, S => match (lamC L0 q).bind fun d => asg tg d L with
    | some L1 => (s.e el L1 S).bind fun d S2 => match d with
      | .p x => (lcR L0 L tg el qs S2).bind fun xs S3 => .ok (x :: xs) S3
      | _ => .bad
    | none => .bad
def noEx {α : Type} : R α → R α
  | .ex _ _ => .bad
  | r => r
def binR (o : Bo) (x y : D) (S : Sto) : R D := match der S x, der S y with
  | some p, some q => liftP S (bin o p q)
  | _, _ => .bad
def negR (x : D) (S : Sto) : R D := match x with
  | .p (.int i) => .ok (.p (.int (-i))) S
  | _ => .bad
def truR (x : D) (S : Sto) : R Bool := lift S ((der S x).bind tru)
def cmpR (o : Co) (x y : D) (S : Sto) : R D := match der S x, der S y with
  | some p, some q => evB (cmpo o p q) S
  | _, _ => .bad
def isiR (T : Ty) (x : D) (S : Sto) : R D := match der S x with
  | some p => evB (isi T p) S
  | none => .bad
def ixR (x y : D) (S : Sto) : R D := match x, y with
  | .p p, .p q => liftP S (item p q)
  | .ref n, .p (.int i) => match S[n]? with
    | some (.lst ds) => match (ixN ds.length i).bind fun j => ds[j]? with
      | some d => .ok d S
      | none => .bad
    | none => .bad
  | _, _ => .bad
def slR (x : D) (i j : Option Int) (S : Sto) : R D := match der S x with
  | some p => liftP S (slice p i j)
  | none => .bad
/-- list + list, the def's own -/
def catR (x y : D) (S : Sto) : R D := match der S x, der S y with
  | some (.lst ps), some (.lst qs) => if Nat.ble (ps.length + qs.length) line then .ok (.ref S.length) (S ++ [.lst ((ps ++ qs).map .p)]) else .bad
  | _, _ => .bad
def revR (x : D) (S : Sto) : R D := match der S x with
  | some (.lst ps) => .ok (.p (.lst ps.reverse)) S
  | some (.tup ps) => .ok (.p (.tup ps.reverse)) S
  | _ => .bad
/-- an attribute of an instance, or a property that hands one out -/
def fldR (pr : Nat → Str → Option (Sum Str Nat)) (x : D) (f : Str) (S : Sto) : R D := match x with
  | .p (.ins c ns ps) => (match pr c f with
    | some (.inl g) => liftP S ((ns.zip ps).lookup g)
    | some (.inr i) => noEx (callD cal i [x] S)
    | none => .bad)
  | _ => .bad
/-- isinstance of an own class -/
def isc1 (mk : Nat → Option Nat) (c : Nat) : P → Option Bool
  | .ins c' _ _ => if (mk c').isSome then some (Nat.beq c c') else none
  | .non => some false
  | .bl _ => some false
  | .int _ => some false
  | .str _ => some false
  | .tup _ => some false
  | .lst _ => some false
  | .dct _ _ => some false
  | _ => none
def iscR (mk : Nat → Option Nat) (c : Nat) (x : D) (S : Sto) : R D := match der S x with
  | some p => evB (isc1 mk c p) S
  | none => .bad
def methB (mt : Nat → Str → Option Nat) (m : Str) : D → Bool
  | .p (.ins c ns _) => (mt c m).isSome && !(ns.any fun n => decide (n = m))
  | _ => false
def methR (mt : Nat → Str → Option Nat) (L : Loc) (m : Str) (x : D) (ds : List D) (S : Sto) : R D := match x with
  | .p (.ins c _ _) => match mt c m with
    | some f => callR cal fr L f (x :: ds) S
    | none => .bad
  | _ => .bad
/-- alone, by some names -/
def isoR (r : R D) (S : Sto) : R D := match r with
  | .ok (.p x) _ => .ok (.p x) S
  | .ex x _ => .ex x S
  | _ => .bad
def isoT (r : R Bool) (S : Sto) : R Bool := match r with
  | .ok b _ => .ok b S
  | .ex x _ => .ex x S
  | .bad => .bad
/-- an instance of the class c is made -/
def mkR (mk : Nat → Option Nat) (L : Loc) (c : Nat) (ds : List D) (S : Sto) : R D := match mk c with
  | some f => callR cal fr L f ds S
  | none => .bad
def lmsR (ds : List D) (S : Sto) : R D := if Nat.ble ds.length line then (match lamsD fr ds with
    | some ls => .ok (.lams ls fr) S
    | none => .bad) else .bad
/-- a display with starred items -/
def spl : Bool → D → Option (List P)
  | false, .p x => some [x]
  | true, .p (.tup qs) => some qs
  | true, .p (.lst qs) => some qs
  | _, _ => none
def evsS : List Bool → List E → Loc → Sto → R (List P)
  | [], [], _, S => .ok [] S
  | b :: bs, e :: es, L, S => (s.e e L S).bind fun d S1 => match spl b d with
    | some qs => (evsS bs es L S1).bind fun rs S2 => .ok (qs ++ rs) S2
    | none => .bad
  | _, _, _, _ => .bad
def starR (tup : Bool) (ps : List P) (S : Sto) : R D := if Nat.ble ps.length line then .ok (.p (if tup then .tup ps else .lst ps)) S else .bad
def isLst : D → Bool
  | .p (.lst _) => true
  | _ => false
def isDct : D → Bool
  | .p (.dct _ _) => true
  | _ => false
/-- d.get(k, x) -/
def dget1 : P → P → P → Option P
  | .dct ks ps, .str x, d => some ((((ks.zip ps).find? fun kv => decide (kv.1 = Sum.inr x)).map (·.2)).getD d)
  | .dct ks ps, .int x, d => some ((((ks.zip ps).find? fun kv => decide (kv.1 = Sum.inl x)).map (·.2)).getD d)
  | _, _, _ => none
def dgetR (x y z : D) (S : Sto) : R D := match x, y, z with
  | .p p, .p q, .p r => liftP S (dget1 p q r)
  | _, _, _ => .bad
def cnt1 : P → P → Option P
  | .lst ps, .str x => (strsP ps).map fun ys => .int (ys.filter fun y => decide (y = x)).length
  | _, _ => none
def idx1 : P → P → Option P
  | .lst ps, .str x => (strsP ps).bind fun ys => (ys.findIdx? fun y => decide (y = x)).map fun (j : Nat) => P.int (j : Int)
  | _, _ => none
def two1 (f : P → P → Option P) (x y : D) (S : Sto) : R D := match x, y with
  | .p p, .p q => liftP S (f p q)
  | _, _ => .bad
/-- a tuple's text in braces, by repr -/
def fst1 (a b : Str) (p : P) : Option P := match p with
  | .tup ps => (match txt (.tup ps) with
    | some n => if dat 64 (.tup ps) && Nat.ble (a.length + n + b.length) line then some (.str (a ++ PyData.shown (toP (.tup ps)) ++ b)) else none
    | none => none)
  | _ => none
def fstR (a b : Str) (x : D) (S : Sto) : R D := liftP S ((der S x).bind (fst1 a b))
def tupR (ds : List D) (S : Sto) : R D := match allP ds with
  | some ps => if ps.length ≤ line then .ok (.p (.tup ps)) S else .bad
  | none => .bad
def lstR (own : Bool) (ds : List D) (S : Sto) : R D := if own then (if Nat.ble ds.length line && ds.all putD then .ok (.ref S.length) (S ++ [.lst ds]) else .bad)
  else match allP ds with
    | some ps => if ps.length ≤ line then .ok (.p (.lst ps)) S else .bad
    | none => .bad
def biR (b : Bi) (ds : List D) (S : Sto) : R D := match ders S ds with
  | some ps => liftP S (blt b ps)
  | none => .bad
/-- what is walked, from the arguments as they stand -/
def walkR (k : Sk) (ds : List D) (S : Sto) : R (List P) := match allP ds with
  | some qs => lift S (walk k qs)
  | none => .bad
def evE : E → Loc → Sto → R D
  | .v i, L, S => match L[i]? with
    | some (some d) => .ok d S
    | _ => .bad
  | .k x, _, S => .ok (.p x) S
  | .bin o a b, L, S => (s.e a L S).bind fun x S1 => (s.e b L S1).bind fun y S2 => binR o x y S2
  | .cat a b, L, S => (s.e a L S).bind fun x S1 => (s.e b L S1).bind fun y S2 => catR x y S2
  | .neg a, L, S => (s.e a L S).bind fun x S1 => negR x S1
  | .not a, L, S => (s.e a L S).bind fun x S1 => (truR x S1).bind fun b S2 => .ok (.p (.bl (!b))) S2
  | .and a b, L, S => (s.e a L S).bind fun x S1 => (truR x S1).bind fun k S2 => if k then s.e b L S2 else .ok x S2
  | .or a b, L, S => (s.e a L S).bind fun x S1 => (truR x S1).bind fun k S2 => if k then .ok x S2 else s.e b L S2
  | .cmp o a b, L, S => (s.e a L S).bind fun x S1 => (s.e b L S1).bind fun y S2 => cmpR o x y S2
  | .chain o o' a b c, L, S => (s.e a L S).bind fun x S1 => (s.e b L S1).bind fun y S2 => (cmpR o x y S2).bind fun z S3 => match z with
    | .p (.bl true) => (s.e c L S3).bind fun w S4 => cmpR o' y w S4
    | .p (.bl false) => .ok (.p (.bl false)) S3
    | _ => .bad
  | .ite t a b, L, S => (s.t t L S).bind fun k S1 => if k then s.e a L S1 else s.e b L S1
  | .tup es, L, S => (evs s es L S).bind fun ds S1 => tupR ds S1
  | .lst own es, L, S => (evs s es L S).bind fun ds S1 => lstR own ds S1
  | .call f es, L, S => (evs s es L S).bind fun ds S1 => callR cal fr L f ds S1
  | .callB f es, L, S => (evs s es L S).bind fun ds S1 => callB cal f ds S1
  | .calL i es, L, S => match L[i]? with
    | some (some d) => if calB d then (evs s es L S).bind fun ds S1 => callL cal fr L d ds S1 else .bad
    | _ => .bad
  | .lam f [], _, S => .ok (.p (.lamc f)) S
  | .lam f (i :: sl), _, S => .ok (.lam f (i :: sl) fr) S
  | .dct ks es, L, S => (evs s es L S).bind fun ds S1 => match allP ds with
    | some ps => if Nat.beq ks.length ps.length && Nat.ble ps.length 15 && decide ks.Nodup then .ok (.p (.dct ks ps)) S1 else .bad
    | none => .bad
  | .lcR own vs tg e el, L, S => (s.e e L S).bind fun d S1 => match d with
    | .lams ls n => if Nat.beq n fr then (noEx (lcR s L (noClo (wipeL L vs)) tg el ls S1)).bind fun xs S3 =>
        if xs.length < line then (if own then .ok (.ref S3.length) (S3 ++ [.lst (xs.map .p)]) else .ok (.p (.lst xs)) S3) else .bad
      else .bad
    | _ => .bad
  | .bi b es, L, S => (evs s es L S).bind fun ds S1 => biR b ds S1
  | .isi T e, L, S => (s.e e L S).bind fun x S1 => isiR T x S1
  | .ix a b, L, S => (s.e a L S).bind fun x S1 => (s.e b L S1).bind fun y S2 => ixR x y S2
  | .sl a lo hi, L, S => (s.e a L S).bind fun x S1 => (evOpt s lo L S1).bind fun i S2 => (evOpt s hi L S2).bind fun j S3 => slR x i j S3
  | .rev a, L, S => (s.e a L S).bind fun x S1 => revR x S1
  | .fld a f, L, S => (s.e a L S).bind fun x S1 => fldR cal s.pr x f S1
  | .isc c a, L, S => (s.e a L S).bind fun x S1 => iscR s.mkt c x S1
  | .meth m a es, L, S => (s.e a L S).bind fun x S1 => if methB s.mt m x then (evs s es L S1).bind fun ds S2 => methR cal fr s.mt L m x ds S2 else .bad
  | .iso ms a, L, S => isoR (s.e a (maskL ms 0 L) []) S
  | .lms es, L, S => (evs s es L S).bind fun ds S1 => lmsR fr ds S1
  | .callK f es, L, S => (evs s es L S).bind fun ds S1 => callK cal f ds S1
  | .mk c es, L, S => (evs s es L S).bind fun ds S1 => mkR cal fr s.mkt L c ds S1
  | .star tup bs es, L, S => (evsS s bs es L S).bind fun ps S1 => starR tup ps S1
  | .dget a k d, L, S => (s.e a L S).bind fun x S1 => if isDct x then (s.e k L S1).bind fun y S2 => (s.e d L S2).bind fun z S3 => dgetR x y z S3 else .bad
  | .cnt a b, L, S => (s.e a L S).bind fun x S1 => if isLst x then (s.e b L S1).bind fun y S2 => two1 cnt1 x y S2 else .bad
  | .idx a b, L, S => (s.e a L S).bind fun x S1 => if isLst x then (s.e b L S1).bind fun y S2 => two1 idx1 x y S2 else .bad
  | .fst x a y, L, S => if Nat.ble x.length line then (s.e a L S).bind fun d S1 => fstR x y d S1 else .bad
  | .sortK _ _, _, _ => .bad
  | .lc own vs tg k es cond el, L, S => (evs s es L S).bind fun ds S1 => (walkR k ds S1).bind fun ps S2 =>
    (noEx (lcP s (wipeL L vs) tg cond el ps S2)).bind fun xs S3 =>
      if xs.length < line then (if own then .ok (.ref S3.length) (S3 ++ [.lst (xs.map .p)]) else .ok (.p (.lst xs)) S3) else .bad
/-- a test -/
def evT : E → Loc → Sto → R Bool
  | .not a, L, S => (s.t a L S).bind fun b S1 => .ok (!b) S1
  | .and a b, L, S => (s.t a L S).bind fun k S1 => if k then s.t b L S1 else .ok false S1
  | .or a b, L, S => (s.t a L S).bind fun k S1 => if k then .ok true S1 else s.t b L S1
  | .iso ms a, L, S => isoT (s.t a (maskL ms 0 L) []) S
  | e, L, S => (evE cal fr s e L S).bind fun x S1 => truR x S1

def R.fl {α : Type} (L : Loc) : R α → (α → Sto → Fl) → Fl
  | .ok a S, f => f a S
  | .ex x S, _ => .ex x L S
  | .bad, _ => .bad
def Fl.then : Fl → (Loc → Sto → Fl) → Fl
  | .nx L S, f => f L S
  | r, _ => r
/-- a for's turns -/
def foP (tg : Tg) (b : List C) : List P → Loc → Sto → Fl
  | [], L, S => .nx L S
  | p :: ps, L, S => match asg tg (.p p) L with
    | none => .bad
    | some L1 => match s.c b L1 S with
      | .nx L2 S2 => foP tg b ps L2 S2
      | .ct L2 S2 => foP tg b ps L2 S2
      | .bk L2 S2 => .nx L2 S2
      | r => r
/-- the first clause that takes the error -/
def handle (su : Nat → Nat → Option Bool) (x : Ex) (L : Loc) : List (Nat × Hd) → Sto → Fl
  | [], _ => .bad
  | (c, h) :: r, S => match su x.c c with
    | some true => (match h with
      | .ret p => .rt (.p p) S
      | .rep i t f => match (x.fs.lookup f).bind repr1 with
        | some (.str y) => if Nat.ble (t.length + y.length) line && Nat.blt i L.length then .rt (.p (.str (t ++ y))) S else .bad
        | _ => .bad)
    | some false => handle su x L r S
    | none => .bad
def evC (rs : Option (Nat → P → Option Ex)) (su : Nat → Nat → Option Bool) : C → Loc → Sto → Fl
  | .set i e, L, S => R.fl L (s.e e L S) fun d S1 => if i < L.length then .nx (setL L i d) S1 else .bad
  | .setT is es, L, S => R.fl L (evs s es L S) fun ds S1 => match setN is ds L with
    | some L1 => .nx L1 S1
    | none => .bad
  | .unp tg e, L, S => R.fl L (s.e e L S) fun d S1 => match asg tg d L with
    | some L1 => .nx L1 S1
    | none => .bad
  | .setIx o i e, L, S => R.fl L (s.e e L S) fun d S1 => R.fl L (s.e o L S1) fun x S2 => R.fl L (s.e i L S2) fun y S3 => match x, y with
    | .ref n, .p (.int i) => match S3[n]? with
      | some (.lst ds) => match ixN ds.length i with
        | some j => if putD d then .nx L (S3.set n (.lst (ds.set j d))) else .bad
        | none => .bad
      | none => .bad
    | _, _ => .bad
  | .app o e, L, S => R.fl L (s.e o L S) fun x S1 => match x with
    | .ref n => match S1[n]? with
      | some _ => R.fl L (s.e e L S1) fun d S2 => match S2[n]? with
        | some (.lst ds) => if Nat.blt ds.length line && putD d then .nx L (S2.set n (.lst (ds ++ [d]))) else .bad
        | none => .bad
      | none => .bad
    | _ => .bad
  | .expr e, L, S => R.fl L (s.e e L S) fun _ S1 => .nx L S1
  | .ret e, L, S => R.fl L (s.e e L S) fun d S1 => .rt d S1
  | .retN, _, S => .rt (.p .non) S
  | .ite t a b, L, S => R.fl L (s.t t L S) fun k S1 => if k then s.c a L S1 else s.c b L S1
  | .fo tg k es b, L, S => R.fl L ((evs s es L S).bind fun ds S1 => walkR k ds S1) fun ps S1 => foP s tg b ps L S1
  | .wh t b, L, S => R.fl L (s.t t L S) fun k S1 => if k then (match s.c b L S1 with
      | .nx L2 S2 => s.c [.wh t b] L2 S2
      | .ct L2 S2 => s.c [.wh t b] L2 S2
      | .bk L2 S2 => .nx L2 S2
      | r => r) else .nx L S1
  | .pass, L, S => .nx L S
  | .brk, L, S => .bk L S
  | .cont, L, S => .ct L S
  | .bad, _, _ => .bad
  | .raise c e, L, S => match rs with
    | some rs => R.fl L (s.e e L S) fun d S1 => match d with
      | .p x => match rs c x with
        | some x => .ex x L S1
        | none => .bad
      | _ => .bad
    | none => .bad
  | .tr b hs, L, S => match s.c b L S with
    | .ex x L1 S1 => handle su x L1 hs S1
    | r => r
def evCs (rs : Option (Nat → P → Option Ex)) (su : Nat → Nat → Option Bool) : List C → Loc → Sto → Fl
  | [], L, S => .nx L S
  | c :: cs, L, S => (evC s rs su c L S).then fun L1 S1 => evCs rs su cs L1 S1
end

/-- a program: its defs, and what its own exceptions keep -/
structure Def where
  np : Nat
  nl : Nat
  b : List C
  fl : Option (Nat × List (List Str × List E)) := none
structure Prog where
  mt : Nat → Str → Option Nat
  pr : Nat → Str → Option (Sum Str Nat)
  mkt : Nat → Option Nat
  ds : List Def
  rs : Nat → P → Option Ex
  su : Nat → Nat → Option Bool
  fu : Nat

/-- exceptions are made where there is room for it -/
def rsF (G : Prog) (fr : Nat) : Option (Nat → P → Option Ex) := if Nat.ble 2 fr then some G.rs else none
def badE : Ev := ⟨fun _ _ _ => .bad, fun _ _ _ => .bad, fun _ _ _ => .bad, fun _ _ => none, fun _ _ => none, fun _ => none⟩
def ev (G : Prog) (cal : Nat → List D → Sto → R D) (fr : Nat) : Nat → Ev
  | 0 => badE
  | n + 1 => ⟨fun e => evE cal fr (ev G cal fr n) e, fun e => evT cal fr (ev G cal fr n) e, fun b => evCs (ev G cal fr n) (rsF G fr) G.su b, G.mt, G.pr, G.mkt⟩
def endR (n : Nat) : Fl → R D
  | .nx _ S => .ok (.p .non) (san n S)
  | .rt d S => if endD d then .ok d (san n S) else .bad
  | .ex x _ S => .ex x (san n S)
  | _ => .bad
/-- the attributes that an __init__ lays, one statement behind the other -/
def iniF (s : Ev) (L : Loc) : List (List Str × List E) → List Str → List P → Sto → R P
  | [], ms, qs, S => .ok (.ins 0 ms qs) S
  | (ns, es) :: r, ms, qs, S => (evs s es L S).bind fun ds S1 => match allP ds with
    | some ps => if Nat.beq ns.length ps.length then iniF s L r (ms ++ ns) (qs ++ ps) S1 else .bad
    | none => .bad
def insOf (c : Nat) : P → P
  | .ins _ ns ps => .ins c ns ps
  | p => p
/-- an instance of the class c is made -/
def isMe : Loc → Bool
  | some .me :: _ => true
  | _ => false
def iniR (n c : Nat) (s : Ev) (fl : List (List Str × List E)) : Fl → R D
  | .nx L S => if isMe L then (match iniF s L fl [] [] S with
    | .ok p S1 => .ok (.p (insOf c p)) (san n S1)
    | .ex x S1 => .ex x (san n S1)
    | .bad => .bad) else .bad
  | .ex x _ S => .ex x (san n S)
  | _ => .bad
/-- the f-th def called, at most k calls deep -/
def evF (G : Prog) : Nat → Nat → List D → Sto → R D
  | 0, _, _, _ => .bad
  | k + 1, f, ds, S => match G.ds[f]? with
    | some d => if ds.length = d.np then match d.fl with
        | none => endR k ((ev G (evF G k) k G.fu).c d.b (ds.map some ++ List.replicate (d.nl - d.np) none) S)
        | some (c, fl) => iniR k c (ev G (evF G k) k G.fu) fl ((ev G (evF G k) k G.fu).c d.b (some .me :: (ds.map some ++ List.replicate (d.nl - d.np) none)) S)
      else .bad
    | none => .bad
end Mn
/-! Mn2: how data stands in a heap; readings by an evaluator. -/
namespace Mn
open L2 PyProof.Rows PySem.Spec PySem
abbrev Ls := L2.St

/-- ghosts: foreign addresses that can change, and the addresses of the store's cells -/
structure Gs where
  F : Addr → Prop
  ρ : List Addr
def Gs.M (g : Gs) (a : Addr) : Prop := g.F a ∨ a ∈ g.ρ

/-- a lambda of the text: its words, its parameters, what it captures -/
structure LamT where
  params : Arguments
  body : Expr
  scope : Scope
  qual : Str
  ps : List Str
  fr : List Str
/-- what is fixed through a program -/
structure Kg where
  K : PySem.W.Frag
  cl : Nat → Option Addr
  lt : Nat → Option LamT
  fa : Nat → Option Addr
  T : List (Addr × Str)
/-- .. and how the running frame began; the frames' cells -/
structure Ka extends Kg where
  h0 : Heap
  H0 : Hp
  fr : Nat
  fc : Nat → Option (List (Str × Addr) × List Str × Scope)
  /-- objects of the running block that no cell is -/
  ex : List Addr
  /-- the object that is made -/
  me : Option Addr
instance : Coe Ka Kg := ⟨Ka.toKg⟩
/-- no table of code objects -/
def nT : HO → Prop
  | .tbl _ => False
  | _ => True
theorem nT_ne {o : HO} (h : nT o) (ps : Array Value) : o ≠ .tbl ps := fun z => by
  rw [z] at h
  exact h
/-- what can change -/
def mT : HO → Prop
  | .lst _ => True
  | .dK _ => True
  | .ins _ _ _ => True
  | _ => False
theorem mT_nT {o : HO} (h : mT o) : nT o := by
  cases o <;> first | trivial | exact h.elim
/-- a lambda's object -/
def FnL (f : Addr) (t : LamT) (cl : List (Str × Addr)) (c : Addr) : HO := .ext fun h => ∃ pm ctv : Value, h.get? f = some (PySem.W.kla_obj "<lambda>" t.qual t.params t.body t.scope cl pm c ctv)
def LamAt (k : Kg) (g : Gs) (H : Hp) (a : Addr) (f : Nat) (t : LamT) (cl : List (Str × Addr)) : Prop := k.lt f = some t ∧ ∃ c, H a = some (FnL a t cl c) ∧ ¬ g.M a ∧ H c = some (LamX.CodeO c t.qual) ∧ ¬ g.M c

def KSeq (K : PySem.W.Frag) (T : String) (a : Addr) (xs : List V) : Prop :=
  ∃ (o : Obj) (its : Array Value) (n : Nat), K.lookup a = some o ∧ o.cls = .type T ∧ o.dict = none ∧ o.data = .seq its n ∧ its.size ≤ sizeLine ∧ Vals xs its.toList
def TA (K : PySem.W.Frag) (g : Gs) (H : Hp) (a : Addr) (vs : List V) : Prop := (H a = some (.tup vs) ∧ ¬ g.M a) ∨ KSeq K "tuple" a vs
def ScA (K : PySem.W.Frag) (g : Gs) (H : Hp) (a : Addr) (vs : List V) : Prop := (∃ o, H a = some (.frz o (.lst vs)) ∧ ¬ g.M a) ∨ KSeq K "list" a vs
theorem TA.sq {K : PySem.W.Frag} {g : Gs} {H : Hp} {a : Addr} {vs : List V} (h : TA K g H a vs) : SqT K H a vs := by
  rcases h with h | ⟨o, its, n, h1, h2, _, h3, h4, h5⟩
  · exact .inl (.inl h.1)
  · exact .inr ⟨o, its, n, h1, h2, h3, h4, h5⟩
theorem ScA.sq {K : PySem.W.Frag} {g : Gs} {H : Hp} {a : Addr} {vs : List V} (h : ScA K g H a vs) : SqL K H a vs := by
  rcases h with ⟨o, h, _⟩ | h
  · exact .inl (.inr ⟨o, h⟩)
  · exact .inr h

mutual
inductive RP (k : Kg) (g : Gs) (H : Hp) : V → P → Prop
  | non : RP k g H .non .non
  | bl (b : Bool) : RP k g H (.bl b) (.bl b)
  | int (i : Int) : RP k g H (.int i) (.int i)
  | str (x : Str) : RP k g H (.str x) (.str x)
  | tup {a : Addr} {vs : List V} {ps : List P} : TA k.K g H a vs → RPs k g H vs ps → RP k g H (.ref a) (.tup ps)
  | lst {a : Addr} {vs : List V} {ps : List P} : H a = some (.lst vs) → ¬ g.M a → RPs k g H vs ps → RP k g H (.ref a) (.lst ps)
  | dct {a : Addr} {o : Obj} {ks : List Key} {vs : List V} {ps : List P} : H a = some (.frz o (.dK (ks.zip vs))) → ks.length = ps.length → ¬ g.M a → RPs k g H vs ps → RP k g H (.ref a) (.dct ks ps)
  | fn {a : Addr} {f : Nat} : k.fa f = some a → RP k g H (.ref a) (.fn f)
  | lamc {a : Addr} {f : Nat} {t : LamT} : LamAt k g H a f t [] → t.fr = [] → RP k g H (.ref a) (.lamc f)
  | scr {a : Addr} {ns : List Int} : ScA k.K g H a (ns.map V.int) → RP k g H (.ref a) (.scr ns)
  | ins {a C dx : Addr} {c : Nat} {ns : List Str} {vs : List V} {ps : List P} : H a = some (.ins C dx (ns.zip vs)) → ¬ g.M a → k.cl c = some C → ns.length = ps.length → RPs k g H vs ps → RP k g H (.ref a) (.ins c ns ps)
  | unk (v : V) : RP k g H v .unk
inductive RPs (k : Kg) (g : Gs) (H : Hp) : List V → List P → Prop
  | nil : RPs k g H [] []
  | cons {v : V} {vs : List V} {p : P} {ps : List P} : RP k g H v p → RPs k g H vs ps → RPs k g H (v :: vs) (p :: ps)
end
/-- what a captured name holds -/
def RE (k : Kg) (g : Gs) (H : Hp) (v : V) : Sum P Nat → Prop
  | .inl x => RP k g H v x
  | .inr n => ∃ a, v = .ref a ∧ g.ρ[n]? = some a
inductive RC (k : Kg) (g : Gs) (H : Hp) : List (Option V) → List (Sum P Nat) → Prop
  | nil : RC k g H [] []
  | cons {v : V} {vs : List (Option V)} {c : Sum P Nat} {cs : List (Sum P Nat)} : RE k g H v c → RC k g H vs cs → RC k g H (some v :: vs) (c :: cs)
/-- what a lambda's cells hold -/
def CA (k : Ka) (cl : List (Str × Addr)) (fr : List Str) (ws : List (Option V)) : Prop := NdefX.CellsAt cl fr ws k.h0 k.H0 ∧ ∀ y c, cl.lookup y = some c → c ∉ k.ex
/-- a lambda of the frame n -/
def LamR (k : Ka) (g : Gs) (H : Hp) (v : V) (f : Nat) (sl : List Nat) (n : Nat) : Prop := ∃ a t cl N sc, v = .ref a ∧ k.fc n = some (cl, N, sc) ∧ LamAt k.toKg g H a f t (cloFrom cl t.scope.names []) ∧ sl.map (fun j => N[j]?) = t.fr.map some ∧ NdefX.ndefB sc t.scope t.fr = true
def RLam (k : Ka) (g : Gs) (H : Hp) (n : Nat) (v : V) : Nat × List Nat → Prop
  | (f, []) => RP k.toKg g H v (.lamc f)
  | (f, i :: sl) => LamR k g H v f (i :: sl) n
inductive RLs (k : Ka) (g : Gs) (H : Hp) (n : Nat) : List V → List (Nat × List Nat) → Prop
  | nil : RLs k g H n [] []
  | cons {v : V} {vs : List V} {q : Nat × List Nat} {ls : List (Nat × List Nat)} : RLam k g H n v q → RLs k g H n vs ls → RLs k g H n (v :: vs) (q :: ls)
def RD (k : Ka) (g : Gs) (H : Hp) (v : V) : D → Prop
  | .p x => RP k.toKg g H v x
  | .ref n => ∃ a, v = .ref a ∧ g.ρ[n]? = some a
  | .lam f sl n => ∃ a t cl N sc, v = .ref a ∧ k.fc n = some (cl, N, sc) ∧ LamAt k.toKg g H a f t (cloFrom cl t.scope.names []) ∧ sl.map (fun j => N[j]?) = t.fr.map some ∧ NdefX.ndefB sc t.scope t.fr = true
  | .clo f cs => ∃ a t cl ws, v = .ref a ∧ LamAt k.toKg g H a f t cl ∧ CA k cl t.fr ws ∧ RC k.toKg g H ws cs
  | .dead => True
  | .me => ∃ a, k.me = some a ∧ v = .ref a
  | .lams ls n => ∃ a vs, v = .ref a ∧ H a = some (.lst vs) ∧ ¬ g.M a ∧ RLs k g H n vs ls
inductive RDs (k : Ka) (g : Gs) (H : Hp) : List V → List D → Prop
  | nil : RDs k g H [] []
  | cons {v : V} {vs : List V} {d : D} {ds : List D} : RD k g H v d → RDs k g H vs ds → RDs k g H (v :: vs) (d :: ds)

structure RS (k : Ka) (g : Gs) (H : Hp) (S : Sto) : Prop where
  len : g.ρ.length = S.length
  nd : g.ρ.Nodup
  fl : ∀ a, g.F a → ∃ o, H a = some o ∧ mT o
  dj : ∀ a ∈ g.ρ, ¬ g.F a
  cell : ∀ (n : Nat) (a : Addr) (ds : List D), g.ρ[n]? = some a → S[n]? = some (MO.lst ds) → ∃ vs, H a = some (.lst vs) ∧ RDs k g H vs ds
  tabs : LamX.Tabs k.T H
  pu : ∀ (n : Nat) (ds : List D), S[n]? = some (MO.lst ds) → ds.all putD = true
structure Ext (g : Gs) (H : Hp) (g1 : Gs) (H1 : Hp) : Prop where
  F : g1.F = g.F
  pre : ∃ t, g1.ρ = g.ρ ++ t ∧ ∀ p ∈ t, H p = none
  keep : ∀ a o, H a = some o → nT o → a ∉ g.ρ → H1 a = some o
  live : ∀ a o, H a = some o → ∃ o', H1 a = some o'
def RL (k : Ka) (g : Gs) (H : Hp) (σ : Ls) (L : Loc) : Prop :=
  σ.length = L.length ∧ ∀ (i : Nat) d, L[i]? = some (some d) → ∃ v, σ[i]? = some (some v) ∧ RD k g H v d

section
variable {k : Ka} {g g1 g2 : Gs} {H H1 H2 : Hp} {S S1 : Sto} {σ : Ls} {L : Loc}
theorem Ext.refl : Ext g H g H := ⟨rfl, ⟨[], by simp, fun _ h => nomatch h⟩, fun _ _ h _ _ => h, fun _ o h => ⟨o, h⟩⟩
theorem Ext.mem (x : Ext g H g1 H1) {a : Addr} {o : HO} (h : H a = some o) (n : a ∉ g.ρ) : a ∉ g1.ρ := by
  obtain ⟨t, e, ht⟩ := x.pre
  rw [e]
  intro hm
  rcases List.mem_append.mp hm with z | z
  · exact n z
  · rw [ht a z] at h; cases h
theorem Ext.notM (x : Ext g H g1 H1) {a : Addr} {o : HO} (h : H a = some o) (n : ¬ g.M a) : ¬ g1.M a := by
  intro hm
  rcases hm with z | z
  · rw [x.F] at z; exact n (.inl z)
  · exact x.mem h (fun q => n (.inr q)) z
theorem Ext.at (x : Ext g H g1 H1) {a : Addr} {o : HO} (h : H a = some o) (t : nT o) (n : ¬ g.M a) : H1 a = some o := x.keep a o h t fun q => n (.inr q)
theorem Ext.trans (x : Ext g H g1 H1) (y : Ext g1 H1 g2 H2) : Ext g H g2 H2 := by
  obtain ⟨t, e, ht⟩ := x.pre
  obtain ⟨t', e', ht'⟩ := y.pre
  refine ⟨y.F.trans x.F, ⟨t ++ t', by rw [e', e, List.append_assoc], fun p hp => ?_⟩, fun a o h u n => y.keep a o (x.keep a o h u n) u (x.mem h n), fun a o h => ?_⟩
  · rcases List.mem_append.mp hp with z | z
    · exact ht p z
    · cases q : H p with
      | none => rfl
      | some o =>
        obtain ⟨o', q'⟩ := x.live p o q
        rw [ht' p z] at q'; cases q'
  · obtain ⟨o', q'⟩ := x.live a o h
    exact y.live a o' q'
theorem Ext.ref (x : Ext g H g1 H1) {n : Nat} {a : Addr} (h : g.ρ[n]? = some a) : g1.ρ[n]? = some a := by
  obtain ⟨t, e, _⟩ := x.pre
  rw [e, List.getElem?_append_left (List.getElem?_eq_some_iff.mp h).1]
  exact h
/-- what data leans on goes over -/
structure Gr (g : Gs) (H : Hp) (g1 : Gs) (H1 : Hp) : Prop where
  kp : ∀ a o, H a = some o → nT o → ¬ g.M a → H1 a = some o
  notM : ∀ a o, H a = some o → nT o → ¬ g.M a → ¬ g1.M a
  ref : ∀ (n : Nat) (a : Addr), g.ρ[n]? = some a → g1.ρ[n]? = some a
theorem Ext.gr (x : Ext g H g1 H1) : Gr g H g1 H1 := ⟨fun _ _ h t n => x.at h t n, fun _ _ h _ n => x.notM h n, fun _ _ h => x.ref h⟩
/-- what plain data leans on goes over -/
structure Gp (g : Gs) (H : Hp) (g1 : Gs) (H1 : Hp) : Prop where
  kp : ∀ a o, H a = some o → nT o → ¬ g.M a → H1 a = some o
  notM : ∀ a o, H a = some o → nT o → ¬ g.M a → ¬ g1.M a
theorem Gr.gp (x : Gr g H g1 H1) : Gp g H g1 H1 := ⟨x.kp, x.notM⟩
theorem LamAt.gp {k : Kg} {a : Addr} {f : Nat} {t : LamT} {cl : List (Str × Addr)} (x : Gp g H g1 H1) (h : LamAt k g H a f t cl) : LamAt k g1 H1 a f t cl := by
  obtain ⟨h0, c, h1, h2, h3, h4⟩ := h
  exact ⟨h0, c, x.kp _ _ h1 trivial h2, x.notM _ _ h1 trivial h2, x.kp _ _ h3 trivial h4, x.notM _ _ h3 trivial h4⟩
mutual
theorem RP.gp {k : Kg} (x : Gp g H g1 H1) : ∀ {p : P} {v : V}, RP k g H v p → RP k g1 H1 v p
  | .non, _, h => by cases h; exact .non
  | .bl b, _, h => by cases h; exact .bl b
  | .int i, _, h => by cases h; exact .int i
  | .str z, _, h => by cases h; exact .str z
  | .tup ps, _, h => by
    cases h with
    | tup t r =>
      refine .tup ?_ (RPs.gp x r)
      rcases t with t | t
      · exact .inl ⟨x.kp _ _ t.1 trivial t.2, x.notM _ _ t.1 trivial t.2⟩
      · exact .inr t
  | .lst ps, _, h => by
    cases h with
    | lst t n r => exact .lst (x.kp _ _ t trivial n) (x.notM _ _ t trivial n) (RPs.gp x r)
  | .dct ks ps, _, h => by
    cases h with
    | dct t l n r => exact .dct (x.kp _ _ t trivial n) l (x.notM _ _ t trivial n) (RPs.gp x r)
  | .fn _, _, h => by
    cases h with
    | fn t => exact .fn t
  | .lamc _, _, h => by
    cases h with
    | lamc t e => exact .lamc (t.gp x) e
  | .scr ns, _, h => by
    cases h with
    | scr t =>
      refine .scr ?_
      rcases t with ⟨o, t⟩ | t
      · exact .inl ⟨o, x.kp _ _ t.1 trivial t.2, x.notM _ _ t.1 trivial t.2⟩
      · exact .inr t
  | .ins c ns ps, _, h => by
    cases h with
    | ins t n e l r => exact .ins (x.kp _ _ t trivial n) (x.notM _ _ t trivial n) e l (RPs.gp x r)
  | .unk, v, _ => .unk v
theorem RPs.gp {k : Kg} (x : Gp g H g1 H1) : ∀ {ps : List P} {vs : List V}, RPs k g H vs ps → RPs k g1 H1 vs ps
  | [], _, h => by cases h; exact .nil
  | p :: ps, _, h => by
    cases h with
    | cons a b => exact .cons (RP.gp x a) (RPs.gp x b)
end
theorem RP.gr {k : Kg} (x : Gr g H g1 H1) {p : P} {v : V} (h : RP k g H v p) : RP k g1 H1 v p := RP.gp x.gp h
theorem RPs.gr {k : Kg} (x : Gr g H g1 H1) {ps : List P} {vs : List V} (h : RPs k g H vs ps) : RPs k g1 H1 vs ps := RPs.gp x.gp h
theorem RC.gr {k : Kg} (x : Gr g H g1 H1) {ws : List (Option V)} {cs : List (Sum P Nat)} (h : RC k g H ws cs) : RC k g1 H1 ws cs := by
  induction h with
  | nil => exact .nil
  | @cons v vs c cs a _ ih =>
    refine .cons ?_ ih
    cases c with
    | inl y => exact RP.gr x a
    | inr n =>
      obtain ⟨b, e, h⟩ := a
      exact ⟨b, e, x.ref _ _ h⟩
theorem LamR.gp (x : Gp g H g1 H1) {v : V} {f : Nat} {sl : List Nat} {n : Nat} (h : LamR k g H v f sl n) : LamR k g1 H1 v f sl n := by
  obtain ⟨a, t, cl, N, sc, h1, h2, h3, h4⟩ := h
  exact ⟨a, t, cl, N, sc, h1, h2, h3.gp x, h4⟩
theorem RLs.gp (x : Gp g H g1 H1) {n : Nat} {vs : List V} {ls : List (Nat × List Nat)} (h : RLs k g H n vs ls) : RLs k g1 H1 n vs ls := by
  induction h with
  | nil => exact .nil
  | @cons v vs q ls a _ ih =>
    refine .cons ?_ ih
    obtain ⟨f, sl⟩ := q
    cases sl with
    | nil => exact RP.gp x a
    | cons i sl => exact LamR.gp x a
theorem RD.gr (x : Gr g H g1 H1) {d : D} {v : V} (h : RD k g H v d) : RD k g1 H1 v d := by
  cases d with
  | p y => exact RP.gr x h
  | ref n =>
    obtain ⟨a, e, h⟩ := h
    exact ⟨a, e, x.ref _ _ h⟩
  | lam f sl n =>
    obtain ⟨a, t, cl, N, sc, h1, h2, h3, h4⟩ := h
    exact ⟨a, t, cl, N, sc, h1, h2, h3.gp x.gp, h4⟩
  | clo f cs =>
    obtain ⟨a, t, cl, ws, h1, h2, h3, h4⟩ := h
    exact ⟨a, t, cl, ws, h1, h2.gp x.gp, h3, h4.gr x⟩
  | dead => trivial
  | me => exact h
  | lams ls n =>
    obtain ⟨a, vs, h1, h2, h3, h4⟩ := h
    exact ⟨a, vs, h1, x.kp _ _ h2 trivial h3, x.notM _ _ h2 trivial h3, h4.gp x.gp⟩
theorem RDs.gr (x : Gr g H g1 H1) : ∀ {ds : List D} {vs : List V}, RDs k g H vs ds → RDs k g1 H1 vs ds
  | [], _, h => by cases h; exact .nil
  | d :: ds, _, h => by
    cases h with
    | cons a b => exact .cons (RD.gr x a) (RDs.gr x b)
theorem RL.gr (x : Gr g H g1 H1) (h : RL k g H σ L) : RL k g1 H1 σ L :=
  ⟨h.1, fun i d e => let ⟨v, e1, r⟩ := h.2 i d e; ⟨v, e1, r.gr x⟩⟩
theorem RP.mono {k : Kg} (x : Ext g H g1 H1) {p : P} {v : V} (h : RP k g H v p) : RP k g1 H1 v p := h.gr x.gr
theorem RPs.mono {k : Kg} (x : Ext g H g1 H1) {ps : List P} {vs : List V} (h : RPs k g H vs ps) : RPs k g1 H1 vs ps := h.gr x.gr
theorem RD.mono (x : Ext g H g1 H1) {d : D} {v : V} (h : RD k g H v d) : RD k g1 H1 v d := h.gr x.gr
theorem RDs.mono (x : Ext g H g1 H1) {ds : List D} {vs : List V} (h : RDs k g H vs ds) : RDs k g1 H1 vs ds := h.gr x.gr
theorem RL.mono (x : Ext g H g1 H1) (h : RL k g H σ L) : RL k g1 H1 σ L := h.gr x.gr
theorem RPs.length {k : Kg} : ∀ {ps : List P} {vs : List V}, RPs k g H vs ps → vs.length = ps.length
  | [], _, h => by cases h; rfl
  | p :: ps, _, h => by
    cases h with
    | cons a b => exact congrArg (· + 1) (RPs.length b)
theorem RDs.length : ∀ {ds : List D} {vs : List V}, RDs k g H vs ds → vs.length = ds.length
  | [], _, h => by cases h; rfl
  | p :: ps, _, h => by
    cases h with
    | cons a b => exact congrArg (· + 1) (RDs.length b)
theorem RPs.get {k : Kg} : ∀ {ps : List P} {vs : List V} {i : Nat} {p : P}, RPs k g H vs ps → ps[i]? = some p → ∃ v, vs[i]? = some v ∧ RP k g H v p
  | [], _, _, _, _, e => by simp at e
  | q :: ps, _, 0, p, h, e => by
    cases h with
    | cons a b =>
      have e' : q = p := by simpa using e
      subst e'
      exact ⟨_, rfl, a⟩
  | q :: ps, _, i + 1, p, h, e => by
    cases h with
    | cons a b =>
      obtain ⟨v, e1, r⟩ := RPs.get (i := i) b (by simpa using e)
      exact ⟨v, by simpa using e1, r⟩
theorem RDs.get : ∀ {ps : List D} {vs : List V} {i : Nat} {p : D}, RDs k g H vs ps → ps[i]? = some p → ∃ v, vs[i]? = some v ∧ RD k g H v p
  | [], _, _, _, _, e => by simp at e
  | q :: ps, _, 0, p, h, e => by
    cases h with
    | cons a b =>
      have e' : q = p := by simpa using e
      subst e'
      exact ⟨_, rfl, a⟩
  | q :: ps, _, i + 1, p, h, e => by
    cases h with
    | cons a b =>
      obtain ⟨v, e1, r⟩ := RDs.get (i := i) b (by simpa using e)
      exact ⟨v, by simpa using e1, r⟩
theorem RPs.append {k : Kg} : ∀ {ps qs : List P} {vs ws : List V}, RPs k g H vs ps → RPs k g H ws qs → RPs k g H (vs ++ ws) (ps ++ qs)
  | [], _, _, _, h, h' => by cases h; exact h'
  | p :: ps, _, _, _, h, h' => by
    cases h with
    | cons a b => exact .cons a (RPs.append b h')
theorem RDs.append : ∀ {ps qs : List D} {vs ws : List V}, RDs k g H vs ps → RDs k g H ws qs → RDs k g H (vs ++ ws) (ps ++ qs)
  | [], _, _, _, h, h' => by cases h; exact h'
  | p :: ps, _, _, _, h, h' => by
    cases h with
    | cons a b => exact .cons a (RDs.append b h')
theorem RPs.take {k : Kg} : ∀ {ps : List P} {vs : List V} (n : Nat), RPs k g H vs ps → RPs k g H (vs.take n) (ps.take n)
  | [], _, _, h => by cases h; simp; exact .nil
  | p :: ps, _, 0, h => by simp; exact .nil
  | p :: ps, _, n + 1, h => by
    cases h with
    | cons a b => exact .cons a (RPs.take n b)
theorem RPs.drop {k : Kg} : ∀ {ps : List P} {vs : List V} (n : Nat), RPs k g H vs ps → RPs k g H (vs.drop n) (ps.drop n)
  | [], _, _, h => by cases h; simp; exact .nil
  | p :: ps, _, 0, h => h
  | p :: ps, _, n + 1, h => by
    cases h with
    | cons a b => exact RPs.drop n b
theorem RPs.reverse {k : Kg} : ∀ {ps : List P} {vs : List V}, RPs k g H vs ps → RPs k g H vs.reverse ps.reverse
  | [], _, h => by cases h; exact .nil
  | p :: ps, _, h => by
    cases h with
    | cons a b =>
      rw [List.reverse_cons, List.reverse_cons]
      exact (RPs.reverse b).append (.cons a .nil)
theorem RDs.set : ∀ {ds : List D} {vs : List V} {v : V} {d : D} (j : Nat), RDs k g H vs ds → RD k g H v d → RDs k g H (vs.set j v) (ds.set j d)
  | [], _, _, _, _, h, _ => by cases h; exact .nil
  | e :: ds, _, _, _, 0, h, r => by
    cases h with
    | cons a b => exact .cons r b
  | e :: ds, _, _, _, j + 1, h, r => by
    cases h with
    | cons a b => exact .cons a (RDs.set j b r)
theorem RDs.ofP : ∀ {ds : List D} {ps : List P} {vs : List V}, allP ds = some ps → RDs k g H vs ds → RPs k g H vs ps
  | [], ps, _, e, h => by
    cases h
    have : ps = [] := by simpa [allP] using e.symm
    subst this; exact .nil
  | .p x :: ds, ps, _, e, h => by
    unfold allP at e
    cases q : allP ds with
    | none => rw [q] at e; cases e
    | some qs =>
      rw [q] at e
      have e' : x :: qs = ps := by simpa using e
      subst e'
      cases h with
      | cons a b => exact .cons a (RDs.ofP q b)
  | .ref _ :: ds, _, _, e, _ => by simp [allP] at e
  | .lam .. :: ds, _, _, e, _ => by simp [allP] at e
  | .clo .. :: ds, _, _, e, _ => by simp [allP] at e
  | .dead :: ds, _, _, e, _ => by simp [allP] at e
  | .me :: ds, _, _, e, _ => by simp [allP] at e
  | .lams .. :: ds, _, _, e, _ => by simp [allP] at e
theorem RPs.toD : ∀ {ps : List P} {vs : List V}, RPs k g H vs ps → RDs k g H vs (ps.map .p)
  | [], _, h => by cases h; exact .nil
  | p :: ps, _, h => by
    cases h with
    | cons a b => exact .cons a (RPs.toD b)
end
end Mn
/-! Mn3: the store changes; readings; how they are put together. -/
namespace Mn
open L2 PyProof.Rows PySem.Spec PySem
section
variable {k : Ka} {g g1 g2 : Gs} {H H1 H2 : Hp} {S S1 : Sto} {σ : Ls} {L : Loc}

theorem RS.live (r : RS k g H S) {a : Addr} (h : a ∈ g.ρ) : ∃ (n : Nat) (ds : List D) (vs : List V), g.ρ[n]? = some a ∧ S[n]? = some (MO.lst ds) ∧ H a = some (.lst vs) ∧ RDs k g H vs ds := by
  obtain ⟨n, hn, e⟩ := List.mem_iff_getElem.mp h
  have e1 : g.ρ[n]? = some a := by rw [List.getElem?_eq_getElem hn, e]
  have hs : n < S.length := by rw [← r.len]; exact hn
  obtain ⟨ds, e2⟩ : ∃ ds, S[n]? = some (MO.lst ds) := by
    rw [List.getElem?_eq_getElem hs]
    cases q : S[n] with
    | lst ds => exact ⟨ds, rfl⟩
  obtain ⟨vs, h1, h2⟩ := r.cell n a ds e1 e2
  exact ⟨n, ds, vs, e1, e2, h1, h2⟩
theorem RS.fresh (r : RS k g H S) {p : Addr} (h : H p = none) : ¬ g.M p := by
  rintro (z | z)
  · obtain ⟨o, e, _⟩ := r.fl p z
    rw [h] at e; cases e
  · obtain ⟨_, _, _, _, _, e, _⟩ := r.live z
    rw [h] at e; cases e
/-- the tables, where neither they nor what they tell is changed -/
theorem tabs_same {T : List (Addr × Str)} (t : LamX.Tabs T H) (e : ∀ b o, H b = some o → (∀ xs, o ≠ .lst xs) → H1 b = some o) : LamX.Tabs T H1 := fun p hp => by
  obtain ⟨ps, h1, h2, h3⟩ := t p hp
  refine ⟨ps, e _ _ h1 (fun xs z => nomatch z), h2, fun pos cv hc => ?_⟩
  obtain ⟨c, e1, e2⟩ := h3 pos cv hc
  exact ⟨c, e1, e _ _ e2 fun xs z => by
    unfold LamX.CodeO at z
    cases z⟩
/-- the heap has grown beside the cells -/
theorem RS.grown (r : RS k g H S) (x : Ext g H g H1) (tb : LamX.Tabs k.T H1) (c : ∀ a ∈ g.ρ, H1 a = H a) : RS k g H1 S :=
  ⟨r.len, r.nd, fun a h => let ⟨o, e, m⟩ := r.fl a h; ⟨o, x.keep a o e (mT_nT m) (fun z => r.dj a z h), m⟩, r.dj, fun n a ds e1 e2 => by
    obtain ⟨vs, h1, h2⟩ := r.cell n a ds e1 e2
    exact ⟨vs, (c a (List.mem_of_getElem? e1)).trans h1, h2.mono x⟩, tb, r.pu⟩
theorem Ext.laid (r : RS k g H S) {p : Addr} (h : H p = none) (o : HO) : Ext g H g (upd H p o) :=
  ⟨rfl, ⟨[], by simp, fun _ z => nomatch z⟩, fun a u e _ _ => by rw [upd_ne (ne_of_none e h)]; exact e, fun a u e => by rw [upd_ne (ne_of_none e h)]; exact ⟨u, e⟩⟩
/-- a new object beside the store -/
theorem RS.laid (r : RS k g H S) {p : Addr} (h : H p = none) (o : HO) : RS k g (upd H p o) S :=
  r.grown (Ext.laid r h o) (r.tabs.ext fun b u e => by rw [upd_ne (ne_of_none e h)]; exact e) fun a ha => by
    obtain ⟨_, _, _, _, _, e, _⟩ := r.live ha
    exact upd_ne (ne_of_none e h)
theorem RP.newTup (r : RS k g H S) {p : Addr} (h : H p = none) {vs : List V} {ps : List P} (q : RPs k g H vs ps) : RP k g (upd H p (.tup vs)) (.ref p) (.tup ps) :=
  .tup (.inl ⟨upd_same, r.fresh h⟩) (q.mono (Ext.laid r h _))
theorem RP.newLst (r : RS k g H S) {p : Addr} (h : H p = none) {vs : List V} {ps : List P} (q : RPs k g H vs ps) : RP k g (upd H p (.lst vs)) (.ref p) (.lst ps) :=
  .lst upd_same (r.fresh h) (q.mono (Ext.laid r h _))
/-- a new cell -/
def Gs.add (g : Gs) (p : Addr) : Gs := ⟨g.F, g.ρ ++ [p]⟩
theorem Ext.cell (r : RS k g H S) {p : Addr} (h : H p = none) (o : HO) : Ext g H (g.add p) (upd H p o) :=
  ⟨rfl, ⟨[p], rfl, fun q z => by rw [List.mem_singleton.mp z]; exact h⟩, fun a u e _ _ => by rw [upd_ne (ne_of_none e h)]; exact e, fun a u e => by rw [upd_ne (ne_of_none e h)]; exact ⟨u, e⟩⟩
theorem pu_app {ds : List D} (h : ∀ (n : Nat) (es : List D), S[n]? = some (MO.lst es) → es.all putD = true) (hp : ds.all putD = true) (n : Nat) (es : List D) (e : (S ++ [MO.lst ds])[n]? = some (MO.lst es)) : es.all putD = true := by
  by_cases hn : n < S.length
  · rw [List.getElem?_append_left hn] at e
    exact h n es e
  · rw [List.getElem?_append_right (by omega)] at e
    have h0 : n - S.length = 0 := by
      have := (List.getElem?_eq_some_iff.mp e).1
      have h1 : ([MO.lst ds] : List MO).length = 1 := rfl
      omega
    rw [h0] at e
    cases e
    exact hp
theorem RS.cellNew (r : RS k g H S) {p : Addr} (h : H p = none) {vs : List V} {ds : List D} (q : RDs k g H vs ds) (pu : ds.all putD = true) : RS k (g.add p) (upd H p (.lst vs)) (S ++ [.lst ds]) := by
  have x := Ext.cell r h (.lst vs)
  have nm := r.fresh h
  refine ⟨?_, ?_, fun a z => ?_, fun a ha z => ?_, fun n a es e1 e2 => ?_, r.tabs.ext fun b u e => by rw [upd_ne (ne_of_none e h)]; exact e, pu_app r.pu pu⟩
  · show (g.ρ ++ [p]).length = (S ++ [MO.lst ds]).length
    rw [List.length_append, List.length_append, r.len]; rfl
  · show (g.ρ ++ [p]).Nodup
    rw [List.nodup_append]
    refine ⟨r.nd, by simp, fun a ha b hb e => ?_⟩
    rw [List.mem_singleton.mp hb] at e
    exact nm (.inr (e ▸ ha))
  · obtain ⟨o, e, m⟩ := r.fl a z
    exact ⟨o, x.keep a o e (mT_nT m) (fun y => r.dj a y z), m⟩
  · rcases List.mem_append.mp ha with y | y
    · exact r.dj a y z
    · rw [List.mem_singleton.mp y] at z
      exact nm (.inl z)
  · have e1 : (g.ρ ++ [p])[n]? = some a := e1
    by_cases hn : n < g.ρ.length
    · rw [List.getElem?_append_left hn] at e1
      rw [List.getElem?_append_left (by rw [← r.len]; exact hn)] at e2
      obtain ⟨ws, h1, h2⟩ := r.cell n a es e1 e2
      exact ⟨ws, by rw [upd_ne (ne_of_none h1 h)]; exact h1, h2.mono x⟩
    · have hn' : n = g.ρ.length := by
        have := (List.getElem?_eq_some_iff.mp e1).1
        rw [List.length_append] at this
        have h1 : ([p] : List Addr).length = 1 := rfl
        omega
      subst hn'
      rw [List.getElem?_append_right (Nat.le_refl _)] at e1
      rw [r.len, List.getElem?_append_right (Nat.le_refl _)] at e2
      simp at e1 e2
      subst e1 e2
      exact ⟨vs, upd_same, q.mono x⟩
/-- a cell is changed -/
theorem Ext.cellSet {a : Addr} (h : a ∈ g.ρ) (o : HO) : Ext g H g (upd H a o) :=
  ⟨rfl, ⟨[], by simp, fun _ z => nomatch z⟩, fun b u e _ n => by
    have q : b ≠ a := fun z => n (by rw [z]; exact h)
    rw [upd_ne q]; exact e, fun b u e => by
    by_cases q : b = a
    · rw [q]; exact ⟨o, upd_same⟩
    · rw [upd_ne q]; exact ⟨u, e⟩⟩
theorem RS.cellSet (r : RS k g H S) {n : Nat} {a : Addr} (e : g.ρ[n]? = some a) {vs : List V} {ds : List D} (q : RDs k g H vs ds) (pu : ds.all putD = true) : RS k g (upd H a (.lst vs)) (S.set n (.lst ds)) := by
  have x := Ext.cellSet (g := g) (H := H) (List.mem_of_getElem? e) (.lst vs)
  refine ⟨by rw [List.length_set]; exact r.len, r.nd, fun b z => let ⟨o, h, m⟩ := r.fl b z; ⟨o, x.keep b o h (mT_nT m) (fun y => r.dj b y z), m⟩, r.dj, fun m b es e1 e2 => ?_, tabs_same r.tabs fun b u h1 h2 => by
    obtain ⟨_, _, vs0, _, _, q, _⟩ := r.live (List.mem_of_getElem? e)
    have nb : b ≠ a := fun z => by
      rw [z, q] at h1
      cases h1
      exact h2 _ rfl
    rw [upd_ne nb]; exact h1, fun m es e2 => by
    by_cases hm : m = n
    · rw [hm] at e2
      have hs : n < S.length := by
        have := (List.getElem?_eq_some_iff.mp e2).1
        rwa [List.length_set] at this
      rw [List.getElem?_set_self hs] at e2
      cases e2
      exact pu
    · rw [List.getElem?_set_ne (Ne.symm hm)] at e2
      exact r.pu m es e2⟩
  by_cases hm : m = n
  · subst hm
    have hb : b = a := Option.some.inj (e1.symm.trans e)
    subst hb
    have hs : m < S.length := by rw [← r.len]; exact (List.getElem?_eq_some_iff.mp e).1
    rw [List.getElem?_set_self hs] at e2
    have e3 : ds = es := by
      have := Option.some.inj e2
      exact MO.lst.inj this
    subst e3
    exact ⟨vs, upd_same, q.mono x⟩
  · rw [List.getElem?_set_ne (Ne.symm hm)] at e2
    obtain ⟨ws, h1, h2⟩ := r.cell m b es e1 e2
    have nb : b ≠ a := fun z => by
      subst z
      obtain ⟨h1, q1⟩ := List.getElem?_eq_some_iff.mp e1
      obtain ⟨h2, q2⟩ := List.getElem?_eq_some_iff.mp e
      exact hm ((List.getElem_inj r.nd).mp (q1.trans q2.symm))
    exact ⟨ws, by rw [upd_ne nb]; exact h1, h2.mono x⟩
end

/-! ### exceptions -/
inductive RF (k : Kg) (g : Gs) (H : Hp) : List (Str × V) → List (Str × P) → Prop
  | nil : RF k g H [] []
  | cons {n : Str} {v : V} {vs : List (Str × V)} {p : P} {ps : List (Str × P)} : RP k g H v p → RF k g H vs ps → RF k g H ((n, v) :: vs) ((n, p) :: ps)
def RX (k : Ka) (g : Gs) (H : Hp) (x : Ex) (cls : Value) (dd : Option Addr) : Prop :=
  ∃ C, k.cl x.c = some C ∧ cls = .ref C ∧ ((x.fs = [] ∧ dd = none) ∨ ∃ a vs, dd = some a ∧ H a = some (.xd vs) ∧ ¬ g.M a ∧ RF k g H vs x.fs ∧ ∀ f p, x.fs.lookup f = some p → XfC k.K C ∧ PySem.W.findIn k.K (.ref C) f = some none)

/-! ### what is wanted behind a run of the evaluator -/
def Bk {α : Type} (k : Ka) (W : WX) (σ : Ls) (g : Gs) (H : Hp) : R α → (α → Sto → Gs → Hp → Prop) → Prop
  | .ok a S, Q => ∀ g' H', Ext g H g' H' → RS k g' H' S → Q a S g' H'
  | .ex x S, _ => ∀ g' H' cls dd, Ext g H g' H' → RS k g' H' S → RX k g' H' x cls dd → W cls dd σ H'
  | .bad, _ => False
section
variable {α β : Type} {k : Ka} {W : WX} {σ : Ls} {g g1 : Gs} {H H1 : Hp}
theorem Bk.mono {r : R α} {Q : α → Sto → Gs → Hp → Prop} (h : Bk k W σ g H r Q) (x : Ext g H g1 H1) : Bk k W σ g1 H1 r Q := by
  cases r with
  | ok a S => exact fun g' H' y rs => h g' H' (x.trans y) rs
  | ex z S => exact fun g' H' cls dd y rs rx => h g' H' cls dd (x.trans y) rs rx
  | bad => exact h
theorem Bk.imp {r : R α} {Q Q' : α → Sto → Gs → Hp → Prop} (h : Bk k W σ g H r Q) (i : ∀ a S g' H', Ext g H g' H' → RS k g' H' S → Q a S g' H' → Q' a S g' H') : Bk k W σ g H r Q' := by
  cases r with
  | ok a S => exact fun g' H' y rs => i a S g' H' y rs (h g' H' y rs)
  | ex z S => exact h
  | bad => exact h
theorem Bk.bind {r : R α} {f : α → Sto → R β} {Q : β → Sto → Gs → Hp → Prop} (h : Bk k W σ g H (r.bind f) Q) : Bk k W σ g H r fun a S g' H' => Bk k W σ g' H' (f a S) Q := by
  cases r with
  | ok a S => exact fun g' H' y _ => Bk.mono (show Bk k W σ g H (f a S) Q from h) y
  | ex z S => exact h
  | bad => exact h
theorem Bk.here {a : α} {S : Sto} {Q : α → Sto → Gs → Hp → Prop} (h : Bk k W σ g H (.ok a S) Q) (rs : RS k g H S) : Q a S g H := h g H .refl rs
end

/-! ### readings -/
def rdE (k : Ka) (W : WX) (f : Loc → Sto → R D) : TE := fun σ H Q => ∃ g L S, RL k g H σ L ∧ RS k g H S ∧ Bk k W σ g H (f L S) fun d _ g' H' => ∀ v, RD k g' H' v d → Q v H'
def rdT (k : Ka) (W : WX) (f : Loc → Sto → R Bool) : TT := fun σ H Q => ∃ g L S, RL k g H σ L ∧ RS k g H S ∧ Bk k W σ g H (f L S) fun b _ _ H' => Q b H'
def rdA (k : Ka) (W : WX) (f : Loc → Sto → R (List D)) : L2.TA := fun σ H Q => ∃ g L S, RL k g H σ L ∧ RS k g H S ∧ Bk k W σ g H (f L S) fun ds _ g' H' => ∀ vs, RDs k g' H' vs ds → Q vs H'

theorem PE.imp {X : Cx} {e : Expr} {t t' : TE} (h : PE X e t') (i : ∀ σ H Q, t σ H Q → t' σ H Q) : PE X e t := ⟨fun pins s σ H Q I q => h.run pins s σ H Q I (i σ H Q q)⟩
theorem PT.imp {X : Cx} {e : Expr} {t t' : TT} (h : PT X e t') (i : ∀ σ H Q, t σ H Q → t' σ H Q) : PT X e t := ⟨fun pins s σ H Q I q => h.run pins s σ H Q I (i σ H Q q)⟩
theorem PA.imp {X : Cx} {e : List Expr} {t t' : L2.TA} (h : PA X e t') (i : ∀ σ H Q, t σ H Q → t' σ H Q) : PA X e t := ⟨fun pos pins s σ H Q I q => h.run pos pins s σ H Q I (i σ H Q q)⟩
theorem PS.imp {X : Cx} {e : Stmt} {t t' : TS} (h : PS X e t') (i : ∀ D σ H, t D σ H → t' D σ H) : PS X e t := ⟨fun pins s σ H D I q => h.run pins s σ H D I (i D σ H q)⟩
theorem PSs.imp {X : Cx} {e : List Stmt} {t t' : TS} (h : PSs X e t') (i : ∀ D σ H, t D σ H → t' D σ H) : PSs X e t := ⟨fun pins s σ H D I q => h.run pins s σ H D I (i D σ H q)⟩
end Mn
/-! Mn4: expressions: each form of the evaluator against the hand layer's rule. -/
namespace Mn
open L2 PyProof.Rows PySem.Spec PySem

/-! ### side conditions of the text's form -/
def noStar : Expr → Bool
  | .Starred .. => false
  | _ => true
def noSlice : Expr → Bool
  | .Slice .. => false
  | _ => true
def plainTest : Expr → Bool
  | .UnaryOp .Not _ _ => false
  | .BoolOp .. => false
  | .IfExp .. => false
  | .Compare .. => false
  | _ => true
theorem star_of {e : Expr} (h : noStar e = true) (es : List Expr) (env : Env) : starEach (e :: es) env = (false, eval e env) :: starEach es env := by
  cases e <;> first | rfl | cases h
theorem plainIx_of {b : Expr} (h : noSlice b = true) : PlainIx b := fun o i => by
  cases b <;> first | rfl | cases h
theorem isTrue_of {e : Expr} (h : plainTest e = true) (env : Env) (whole : Sem Value) : isTrue e env whole = (do let v ← whole; standAt e.pos; holding [v] (truthy v)) := by
  cases e with
  | UnaryOp op x p => cases op <;> first | rfl | cases h
  | BoolOp => cases h
  | IfExp => cases h
  | Compare => cases h
  | _ => rfl

section
variable {X : Cx} {k : Ka} {W : WX}
/-! ### two, three in a row -/
def Fin2 (k : Ka) (W : WX) (σ : Ls) (F : D → D → Sto → R D) (Q : VK) : V → V → Hp → Prop := fun vx vy H => ∃ g x y S, RS k g H S ∧ RD k g H vx x ∧ RD k g H vy y ∧ Bk k W σ g H (F x y S) fun d _ g' H' => ∀ v, RD k g' H' v d → Q v H'
def Fin1 (k : Ka) (W : WX) (σ : Ls) (F : D → Sto → R D) (Q : VK) : V → Hp → Prop := fun vx H => ∃ g x S, RS k g H S ∧ RD k g H vx x ∧ Bk k W σ g H (F x S) fun d _ g' H' => ∀ v, RD k g' H' v d → Q v H'
theorem rd_two {fa fb : Loc → Sto → R D} {F : D → D → Sto → R D} {σ : Ls} {H : Hp} {Q : VK} (h : rdE k W (fun L S => (fa L S).bind fun x S1 => (fb L S1).bind fun y S2 => F x y S2) σ H Q) :
    rdE k W fa σ H fun vx H1 => rdE k W fb σ H1 fun vy H2 => Fin2 k W σ F Q vx vy H2 := by
  obtain ⟨g, L, S, rl, rs, b⟩ := h
  refine ⟨g, L, S, rl, rs, b.bind.imp fun x S1 g1 H1 e1 rs1 b1 vx rx => ⟨g1, L, S1, rl.mono e1, rs1, b1.bind.imp fun y S2 g2 H2 e2 rs2 b2 vy ry => ⟨g2, x, y, S2, rs2, rx.mono e2, ry, b2⟩⟩⟩
theorem rd_one {fa : Loc → Sto → R D} {F : D → Sto → R D} {σ : Ls} {H : Hp} {Q : VK} (h : rdE k W (fun L S => (fa L S).bind fun x S1 => F x S1) σ H Q) :
    rdE k W fa σ H fun vx H1 => Fin1 k W σ F Q vx H1 := by
  obtain ⟨g, L, S, rl, rs, b⟩ := h
  exact ⟨g, L, S, rl, rs, b.bind.imp fun x S1 g1 H1 e1 rs1 b1 vx rx => ⟨g1, x, S1, rs1, rx, b1⟩⟩
/-- a value as data -/
theorem RD.der {g : Gs} {H : Hp} {S : Sto} {d : D} {v : V} {p : P} (rs : RS k g H S) (r : RD k g H v d) (e : der S d = some p) : RP k g H v p ∨ ∃ a vs ps, v = .ref a ∧ p = .lst ps ∧ H a = some (.lst vs) ∧ RPs k g H vs ps := by
  cases d with
  | p x =>
    have e' : x = p := Option.some.inj e
    subst e'
    exact .inl r
  | ref n =>
    obtain ⟨a, rfl, h⟩ := r
    cases q : S[n]? with
    | none => simp [Mn.der, q] at e
    | some mo =>
      cases mo with
      | lst ds =>
        have e : (allP ds).map P.lst = some p := by simpa [Mn.der, q] using e
        cases q2 : allP ds with
        | none => rw [q2] at e; cases e
        | some ps =>
          rw [q2] at e
          have e' : P.lst ps = p := Option.some.inj e
          obtain ⟨vs, h1, h2⟩ := rs.cell n a ds h q
          exact .inr ⟨a, vs, ps, rfl, e'.symm, h1, h2.ofP q2⟩
  | lam f sl n => cases e
  | clo f cs => cases e
  | dead => cases e
  | me => cases e
  | lams ls n => cases e
theorem RR.dct {k : Kg} {g : Gs} {H : Hp} {v : V} {ks : List Key} {ps : List P} (h : RP k g H v (.dct ks ps) ∨ ∃ a vs qs, v = .ref a ∧ (P.dct ks ps) = .lst qs ∧ H a = some (.lst vs) ∧ RPs k g H vs qs) : ∃ a o vs, v = .ref a ∧ H a = some (.frz o (.dK (ks.zip vs))) ∧ ks.length = ps.length ∧ RPs k g H vs ps := by
  rcases h with h | ⟨_, _, _, _, e, _⟩
  · cases h with
    | dct t l n r => exact ⟨_, _, _, rfl, t, l, r⟩
  · cases e
/-- data as it can be read -/
def RR (k : Kg) (g : Gs) (H : Hp) (v : V) (p : P) : Prop := RP k g H v p ∨ ∃ a vs ps, v = .ref a ∧ p = .lst ps ∧ H a = some (.lst vs) ∧ RPs k g H vs ps
theorem RR.non {k : Kg} {g : Gs} {H : Hp} {v : V} (h : RR k g H v .non) : v = .non := by
  rcases h with h | ⟨_, _, _, _, e, _⟩
  · cases h; rfl
  · cases e
theorem RR.bl {k : Kg} {g : Gs} {H : Hp} {v : V} {b : Bool} (h : RR k g H v (.bl b)) : v = .bl b := by
  rcases h with h | ⟨_, _, _, _, e, _⟩
  · cases h; rfl
  · cases e
theorem RR.int {k : Kg} {g : Gs} {H : Hp} {v : V} {i : Int} (h : RR k g H v (.int i)) : v = .int i := by
  rcases h with h | ⟨_, _, _, _, e, _⟩
  · cases h; rfl
  · cases e
theorem RR.str {k : Kg} {g : Gs} {H : Hp} {v : V} {i : Str} (h : RR k g H v (.str i)) : v = .str i := by
  rcases h with h | ⟨_, _, _, _, e, _⟩
  · cases h; rfl
  · cases e
theorem RR.tup {k : Kg} {g : Gs} {H : Hp} {v : V} {ps : List P} (h : RR k g H v (.tup ps)) : ∃ a vs, v = .ref a ∧ SqT k.K H a vs ∧ RPs k g H vs ps := by
  rcases h with h | ⟨_, _, _, _, e, _⟩
  · cases h with
    | tup t r => exact ⟨_, _, rfl, t.sq, r⟩
  · cases e
theorem RR.lst {k : Kg} {g : Gs} {H : Hp} {v : V} {ps : List P} (h : RR k g H v (.lst ps)) : ∃ a vs, v = .ref a ∧ H a = some (.lst vs) ∧ RPs k g H vs ps := by
  rcases h with h | ⟨_, _, _, e1, e, h, r⟩
  · cases h with
    | lst t n r => exact ⟨_, _, rfl, t, r⟩
  · cases e
    exact ⟨_, _, e1, h, r⟩
theorem RR.scr {k : Kg} {g : Gs} {H : Hp} {v : V} {ns : List Int} (h : RR k g H v (.scr ns)) : ∃ a, v = .ref a ∧ SqL k.K H a (ns.map V.int) := by
  rcases h with h | ⟨_, _, _, _, e, _⟩
  · cases h with
    | scr t => exact ⟨_, rfl, t.sq⟩
  · cases e
/-! data as the layer's == takes it -/
mutual
theorem RP.dp {k : Kg} {g : Gs} {H : Hp} : ∀ {p : P} {v : V} {n : Nat}, RP k g H v p → dat n p = true → Dp k.K H v (toP p)
  | .non, _, _, h, _ => by cases h; exact .non
  | .bl b, _, _, h, _ => by cases h; exact .bl b
  | .int i, _, _, h, _ => by cases h; exact .int i
  | .str x, _, _, h, _ => by cases h; exact .str x
  | .tup ps, _, 0, h, e => by simp [dat] at e
  | .tup ps, _, n + 1, h, e => by
    cases h with
    | tup t r => exact .tup t.sq (RPs.dp r (n := n) (by simpa [dat] using e))
  | .lst ps, _, 0, h, e => by simp [dat] at e
  | .lst ps, _, n + 1, h, e => by
    cases h with
    | lst t m r => exact .lst (.inl (.inl t)) (RPs.dp r (n := n) (by simpa [dat] using e))
  | .dct _ _, _, n, h, e => by cases n <;> simp [dat] at e
  | .fn _, _, n, h, e => by cases n <;> simp [dat] at e
  | .lamc _, _, n, h, e => by cases n <;> simp [dat] at e
  | .scr _, _, n, h, e => by cases n <;> simp [dat] at e
  | .ins _ _ _, _, n, h, e => by cases n <;> simp [dat] at e
  | .unk, _, n, h, e => by cases n <;> simp [dat] at e
theorem RPs.dp {k : Kg} {g : Gs} {H : Hp} : ∀ {ps : List P} {vs : List V} {n : Nat}, RPs k g H vs ps → dats n ps = true → DpAll k.K H vs (toPs ps)
  | [], _, _, h, _ => by cases h; exact .nil
  | p :: ps, _, n, h, e => by
    simp only [dats, Bool.and_eq_true] at e
    cases h with
    | cons a b => exact .cons (RP.dp a e.1) (RPs.dp b e.2)
end
theorem RR.dp {k : Kg} {g : Gs} {H : Hp} {p : P} {v : V} (h : RR k g H v p) (e : dat 64 p = true) : Dp k.K H v (toP p) := by
  rcases h with h | ⟨a, vs, ps, rfl, rfl, h, r⟩
  · exact h.dp e
  · exact .lst (.inl (.inl h)) (r.dp (n := 63) (by simpa [dat] using e))
theorem okS_str {x : Str} (h : okS x = true) : PyData.canLay0 (.str x) = true := by
  show PyData.strOk x = true
  unfold PyData.strOk
  unfold okS at h
  rw [← Array.all_toList]
  rw [List.all_eq_true] at h ⊢
  intro c hc
  exact decide_eq_true (Nat.le_of_ble_eq_true (h c hc))
mutual
theorem dat_lay : ∀ {p : P} {n : Nat}, dat n p = true → PyData.canLay0 (toP p) = true ∧ PyData.depth (toP p) ≤ n
  | .non, _, _ => ⟨rfl, by simp [toP, PyData.depth]⟩
  | .bl b, _, _ => ⟨rfl, by simp [toP, PyData.depth]⟩
  | .int i, _, _ => ⟨rfl, by simp [toP, PyData.depth]⟩
  | .str x, n, h => ⟨okS_str (by cases n <;> simpa [dat] using h), by simp [toP, PyData.depth]⟩
  | .tup ps, 0, e => by simp [dat] at e
  | .tup ps, n + 1, e => by
    have := dats_lay (ps := ps) (n := n) (by simpa [dat] using e)
    exact ⟨by simpa [toP, PyData.canLay0] using this.1, by simp only [toP, PyData.depth]; omega⟩
  | .lst ps, 0, e => by simp [dat] at e
  | .lst ps, n + 1, e => by
    have := dats_lay (ps := ps) (n := n) (by simpa [dat] using e)
    exact ⟨by simpa [toP, PyData.canLay0] using this.1, by simp only [toP, PyData.depth]; omega⟩
  | .dct _ _, n, e => by cases n <;> simp [dat] at e
  | .fn _, n, e => by cases n <;> simp [dat] at e
  | .lamc _, n, e => by cases n <;> simp [dat] at e
  | .scr _, n, e => by cases n <;> simp [dat] at e
  | .ins _ _ _, n, e => by cases n <;> simp [dat] at e
  | .unk, n, e => by cases n <;> simp [dat] at e
theorem dats_lay : ∀ {ps : List P} {n : Nat}, dats n ps = true → PyData.canLayAll0 (toPs ps) = true ∧ PyData.depthAll (toPs ps) ≤ n
  | [], _, _ => ⟨rfl, by simp [toPs, PyData.depthAll]⟩
  | p :: ps, n, e => by
    simp only [dats, Bool.and_eq_true] at e
    have h1 := dat_lay e.1
    have h2 := dats_lay e.2
    refine ⟨by simp only [toPs, PyData.canLayAll0, h1.1, h2.1, Bool.and_self], ?_⟩
    simp only [toPs, PyData.depthAll]
    omega
end
theorem dat_shaped {p : P} (h : dat 64 p = true) : SeqAt.shaped (toP p) = true := by
  obtain ⟨h1, h2⟩ := dat_lay h
  unfold SeqAt.shaped
  rw [h1, decide_eq_true h2]; rfl
end
end Mn
/-! Mx5: a tuple taken no time, once. -/
namespace Mn
open L2 PyProof.Rows PySem.Spec PySem
theorem tuple_mul0 (l : Addr) (items : Array Value) (n : Nat) (dd : Option Addr) (sl : Array (Option Value)) (u : Tok) (c1 : items.isEmpty = false) :
    Meets (Builtin.«tuple.__mul__» ⟨[.ref l, .int 0 u], []⟩) (fun _ R s => s.heap.get? l = some { cls := .type "tuple", dict := dd, data := .seq items n, slots := sl } ∧
      R (.ok (.ret (Value.ref s.heap.objs.size))) { s with heap := s.heap.push { cls := Value.type "tuple", data := Data.seq #[] }, toks := s.toks }) :=
  .of_wp fun prog w A R s h => by
    obtain ⟨hp, g, d, tk, os⟩ := s
    obtain ⟨hl, h⟩ := h
    have f1 := AutoSeq1.idx_int
    have c2 : (items.isEmpty || (0 : Int) == 1) = false := by rw [c1]; rfl
    have c3 : (decide ((0 : Int) ≤ 0) || items.isEmpty) = true := rfl
    wp_walk using wpAny_loadPart' hl
    repeat (first
      | (refine wpAny_ite_false (decide_eq_false (by rw [c2]; exact Bool.false_ne_true)) ?_; wp_walk using wpAny_loadPart' hl)
      | (refine wpAny_ite_true (decide_eq_true c3) ?_; wp_walk using wpAny_loadPart' hl))
    exact ⟨_, rfl, h⟩
theorem tuple_mul1 (l : Addr) (items : Array Value) (n : Nat) (dd : Option Addr) (sl : Array (Option Value)) (u : Tok) (c1 : items.isEmpty = false) :
    Meets (Builtin.«tuple.__mul__» ⟨[.ref l, .int 1 u], []⟩) (fun _ R s => s.heap.get? l = some { cls := .type "tuple", dict := dd, data := .seq items n, slots := sl } ∧
      R (.ok (.ret (Value.ref l))) s) :=
  .of_wp fun prog w A R s h => by
    obtain ⟨hp, g, d, tk, os⟩ := s
    obtain ⟨hl, h⟩ := h
    have f1 := AutoSeq1.idx_int
    have c2 : (items.isEmpty || (1 : Int) == 1) = true := by rw [c1]; rfl
    wp_walk using wpAny_loadPart' hl
    repeat (first
      | (refine wpAny_ite_true (decide_eq_true c2) ?_; wp_walk using wpAny_loadPart' hl))
    exact ⟨_, rfl, h⟩
def rRep0 (K : PySem.W.Frag) : R2 := fun x y H Q => ∃ l xs, x = .ref l ∧ y = .int 0 ∧ SqT K H l xs ∧ xs ≠ [] ∧ ∀ p, H p = none → Q (.ref p) (upd H p (.tup []))
def rRep1 (K : PySem.W.Frag) : R2 := fun x y H Q => ∃ l xs, x = .ref l ∧ y = .int 1 ∧ SqT K H l xs ∧ xs ≠ [] ∧ Q (.ref l) H
section
variable {X : Cx}
theorem op_rep0 : OpR X (binaryOp .Mult) (rRep0 X.K) := by
  intro pins s σ H x y v u Q I rx ry h
  obtain ⟨l, xs, rfl, rfl, hT, hne, q⟩ := h
  cases rx
  obtain ⟨t, rfl⟩ := ry
  obtain ⟨its, r, ⟨⟨cls, dd, data, sl⟩, ho, hc, n, hd⟩, hs⟩ := I.tuple hT
  simp only at hc hd
  subst hc hd
  have hi : its.toArray.isEmpty = false := by
    cases its with
    | nil => cases r; exact absurd rfl hne
    | cons a b => rfl
  refine wpAny_binaryOp_repeat_ref (T := "tuple") (U := "int") (by decide) ⟨_, ho, rfl⟩ (fun s' => typeIs_int s' 0 t) noFill_tuple_mul F.fills_int_mul F.slot_int_rmul repeat_tuple F.slot_int_index.lookup
    (call_meets F.slot_int_rmul (typeIs_int s 0 t) F.entry_int_rmul (F.args_int_rmul_2 _ _) (int_rmul_tuple 0 t l its.toArray n dd sl)
      ⟨ho, rfl, ⟨_, ho, rfl⟩, call_meets F.slot_tuple_mul ⟨_, ho, rfl⟩ F.entry_tuple_mul (F.args_tuple_mul_2 _ _) (tuple_mul0 l its.toArray n dd sl t hi) ⟨ho, ?_⟩⟩)
  refine ⟨.ref s.heap.objs.size, _, I.laid (t' := s.toks) (o := .tup []) (fun b ob q => Heap.get?_push_of_some _ q) (Nat.le_refl _) ?_, rfl, q _ (I.hok.fresh (Nat.le_refl _))⟩
  exact ⟨Nat.zero_le _, [], .nil, IsTup.new _ _⟩
theorem op_rep1 : OpR X (binaryOp .Mult) (rRep1 X.K) := by
  intro pins s σ H x y v u Q I rx ry h
  obtain ⟨l, xs, rfl, rfl, hT, hne, q⟩ := h
  cases rx
  obtain ⟨t, rfl⟩ := ry
  obtain ⟨its, r, ⟨⟨cls, dd, data, sl⟩, ho, hc, n, hd⟩, hs⟩ := I.tuple hT
  simp only at hc hd
  subst hc hd
  have hi : its.toArray.isEmpty = false := by
    cases its with
    | nil => cases r; exact absurd rfl hne
    | cons a b => rfl
  exact wpAny_binaryOp_repeat_ref (T := "tuple") (U := "int") (by decide) ⟨_, ho, rfl⟩ (fun s' => typeIs_int s' 1 t) noFill_tuple_mul F.fills_int_mul F.slot_int_rmul repeat_tuple F.slot_int_index.lookup
    (call_meets F.slot_int_rmul (typeIs_int s 1 t) F.entry_int_rmul (F.args_int_rmul_2 _ _) (int_rmul_tuple 1 t l its.toArray n dd sl)
      ⟨ho, rfl, ⟨_, ho, rfl⟩, call_meets F.slot_tuple_mul ⟨_, ho, rfl⟩ F.entry_tuple_mul (F.args_tuple_mul_2 _ _) (tuple_mul1 l its.toArray n dd sl t hi) ⟨ho, .ref l, H, I, rfl, q⟩⟩)
end
end Mn
/-! Mn5: operators, comparisons, items, slices by values. -/
namespace Mn
open L2 PyProof.Rows PySem.Spec PySem
/-- what is wanted of a value and a store -/
def Want (k : Ka) (g : Gs) (H : Hp) (S : Sto) (d : D) (Q : VK) : Prop := ∀ g' H', Ext g H g' H' → RS k g' H' S → ∀ v, RD k g' H' v d → Q v H'
section
variable {X : Cx} {k : Ka} {g : Gs} {H : Hp} {S : Sto} {Q : VK}
theorem Want.at {d : D} (h : Want k g H S d Q) (rs : RS k g H S) {v : V} (r : RD k g H v d) : Q v H := h g H .refl rs v r
theorem Want.bl {b : Bool} (h : Want k g H S (.p (.bl b)) Q) (rs : RS k g H S) : Q (.bl b) H := h.at rs (RP.bl b)
theorem Want.int {b : Int} (h : Want k g H S (.p (.int b)) Q) (rs : RS k g H S) : Q (.int b) H := h.at rs (RP.int b)
theorem Want.str {b : Str} (h : Want k g H S (.p (.str b)) Q) (rs : RS k g H S) : Q (.str b) H := h.at rs (RP.str b)
theorem Want.tup {ps : List P} {vs : List V} (h : Want k g H S (.p (.tup ps)) Q) (rs : RS k g H S) (r : RPs k g H vs ps) : ∀ p, H p = none → Q (.ref p) (upd H p (.tup vs)) :=
  fun p n => h _ _ (Ext.laid rs n _) (rs.laid n _) _ (RP.newTup rs n r)
theorem Want.lst {ps : List P} {vs : List V} (h : Want k g H S (.p (.lst ps)) Q) (rs : RS k g H S) (r : RPs k g H vs ps) : ∀ p, H p = none → Q (.ref p) (upd H p (.lst vs)) :=
  fun p n => h _ _ (Ext.laid rs n _) (rs.laid n _) _ (RP.newLst rs n r)
theorem Want.cell {ds : List D} {vs : List V} (h : Want k g H (S ++ [.lst ds]) (.ref S.length) Q) (rs : RS k g H S) (r : RDs k g H vs ds) (pu : ds.all putD = true) : ∀ p, H p = none → Q (.ref p) (upd H p (.lst vs)) :=
  fun p n => h (g.add p) _ (Ext.cell rs n _) (rs.cellNew n r pu) _ ⟨p, rfl, by
    show (g.ρ ++ [p])[S.length]? = some p
    rw [← rs.len, List.getElem?_append_right (Nat.le_refl _)]
    simp⟩
theorem RPs.nil_of {vs : List V} {ps : List P} (r : RPs k g H vs ps) (e : vs = []) : ps = [] := by
  have h := r.length
  rw [e] at h
  exact List.length_eq_zero_iff.mp h.symm
theorem RR.rp {v : V} {ps : List P} (h : RR k g H v (.tup ps)) : RP k g H v (.tup ps) := by
  rcases h with h | ⟨_, _, _, _, e, _⟩
  · exact h
  · cases e
theorem line_eq : line = sizeLine := by rw [sizeLine_eq]; rfl

/-! ### operators -/
theorem mulOk_ok {i j : Int} (h : mulOk i j = true) : IntMulOk i j := by
  have b : ∀ x : Int, Builtin.Int.intBits x ≤ x.natAbs.log2 + 1 := fun x => by
    unfold Builtin.Int.intBits
    split <;> omega
  have h1 := b i
  have h2 := b j
  have h3 : i.natAbs.log2 + j.natAbs.log2 < 134217726 := Nat.le_of_ble_eq_true h
  unfold IntMulOk
  intro z
  have z2 := (Bool.and_eq_true_iff.mp z).2
  unfold Builtin.Int.intTooBig at z2
  have z3 := of_decide_eq_true z2
  have e : bitsLine = 134217728 := by decide
  rw [e] at z3
  omega
theorem op_mulV : OpR X (binaryOp .Mult) (rI (fun i j => mulOk i j = true) fun i j => .int (i * j)) := opI fun _ _ _ _ _ _ _ hc q => mul_int q (mulOk_ok hc)
theorem op_powV : OpR X (binaryOp .Pow) (rI (fun i j => powOk i j = true) fun i j => .int (i ^ j.toNat)) := opI fun i j _ _ _ _ _ hc q => by
  unfold powOk at hc
  obtain ⟨h1, h2⟩ := Bool.and_eq_true_iff.mp hc
  have h0 : 0 ≤ j := of_decide_eq_true h1
  have h3 := Nat.le_of_ble_eq_true h2
  refine PyProof.Rows.pow_int h0 ?_ q
  have b : Builtin.Int.intBits i ≤ i.natAbs.log2 + 1 := by
    unfold Builtin.Int.intBits
    split <;> omega
  have e : (j.toNat : Int) = j := Int.toNat_of_nonneg h0
  have h4 : Builtin.Int.intBits i * j.toNat ≤ 134217728 := Nat.le_trans (Nat.mul_le_mul_right _ b) h3
  have h5 : ((Builtin.Int.intBits i * j.toNat : Nat) : Int) ≤ ((134217728 : Nat) : Int) := Int.ofNat_le.mpr h4
  rw [Int.natCast_mul, e] at h5
  exact Int.le_trans h5 (by decide)
theorem op_fdivV : OpR X (binaryOp .FloorDiv) (rI (fun i j => fdivOk i j = true) fun i j => .int (i / j)) := opI fun i j _ _ _ _ _ hc q => by
  unfold fdivOk at hc
  obtain ⟨h1, h2⟩ := Bool.and_eq_true_iff.mp hc
  have h0 : 0 < j := of_decide_eq_true h1
  exact floordiv_int (by omega) (by rw [Int.fdiv_eq_ediv_of_nonneg i (by omega)]; exact q) (.inl ((Bool.not_eq_true' _).mp h2))
def opB : Operator → Option Bo
  | .Add => some .add
  | .Sub => some .sub
  | .Mult => some .mul
  | .FloorDiv => some .fdiv
  | .Mod => some .mod
  | .Pow => some .pow
  | _ => none
theorem RPs.rep {k : Kg} {g : Gs} {H : Hp} {vs : List V} {ps : List P} (r : RPs k g H vs ps) : ∀ n : Nat, RPs k g H (List.replicate n vs).flatten (List.replicate n ps).flatten
  | 0 => .nil
  | n + 1 => by
    rw [List.replicate_succ, List.replicate_succ, List.flatten_cons, List.flatten_cons]
    exact r.append (RPs.rep r n)
/-- two data, an operator: the hand layer's rule, its reading from what is wanted -/
theorem bin_rule {op : Operator} {o : Bo} (ho : opB op = some o) (hK : X.K = k.K) : ∃ r, OpR X (binaryOp op) r ∧
    ∀ {g H S Q p q z vx vy}, bin o p q = some z → RS k g H S → RR k g H vx p → RR k g H vy q → Want k g H S (.p z) Q → r vx vy H Q := by
  cases op <;> simp [opB] at ho <;> subst ho
  case Add =>
    refine ⟨_, op_add.or (op_add_str.or (op_catA.or op_cat)), fun {g H S Q p q z vx vy} e rs rx ry w => ?_⟩
    cases p <;> cases q <;> simp [bin] at e
    case int.int i j =>
      subst e
      exact .inl ⟨i, j, rx.int, ry.int, w.int rs⟩
    case str.str x y =>
      obtain ⟨h, rfl⟩ := e
      exact .inr (.inl ⟨x, y, rx.str, ry.str, by rw [← line_eq]; exact h, w.str rs⟩)
    case tup.tup xs ys =>
      obtain ⟨h, rfl⟩ := e
      obtain ⟨a, vs, rfl, ha, r1⟩ := rx.tup
      obtain ⟨b, ws, rfl, hb, r2⟩ := ry.tup
      refine .inr (.inr (.inl ⟨a, b, vs, ws, rfl, rfl, by rw [hK]; exact ha, by rw [hK]; exact hb, by rw [r1.length, r2.length, ← line_eq]; exact h, fun e => ?_, fun _ e => ?_, fun _ _ => w.tup rs (r1.append r2)⟩))
      · have e1 : xs = [] := r1.nil_of e
        subst e1
        exact w.at rs ry.rp
      · have e1 : ys = [] := r2.nil_of e
        subst e1
        rw [List.append_nil] at w
        exact w.at rs rx.rp
    case lst.lst xs ys =>
      obtain ⟨h, rfl⟩ := e
      obtain ⟨a, vs, rfl, ha, r1⟩ := rx.lst
      obtain ⟨b, ws, rfl, hb, r2⟩ := ry.lst
      exact .inr (.inr (.inr ⟨a, b, vs, ws, rfl, rfl, ha, hb, by rw [r1.length, r2.length, ← line_eq]; exact h, w.lst rs (r1.append r2)⟩))
  case Sub =>
    refine ⟨_, op_sub, fun {g H S Q p q z vx vy} e rs rx ry w => ?_⟩
    cases p <;> cases q <;> simp [bin] at e
    subst e
    exact ⟨_, _, rx.int, ry.int, w.int rs⟩
  case Mult =>
    refine ⟨_, op_mulV.or (op_rep.or (op_repT.or (op_rep0.or op_rep1))), fun {g H S Q p q z vx vy} e rs rx ry w => ?_⟩
    cases p <;> cases q <;> simp [bin] at e
    case int.int =>
      obtain ⟨h, rfl⟩ := e
      exact .inl ⟨_, _, rx.int, ry.int, h, w.int rs⟩
    case tup.int xs j =>
      obtain ⟨⟨⟨⟨h1, h2⟩, h3⟩, h4⟩, rfl⟩ := e
      obtain ⟨a, vs, rfl, ha, r1⟩ := rx.tup
      have hl := r1.length
      have ne : vs ≠ [] := fun z => by
        have := r1.nil_of z
        subst this
        simp at h1
      by_cases h5 : 2 ≤ j
      · exact .inr (.inr (.inl ⟨a, j, vs, rfl, ry.int, by rw [hK]; exact ha, ne, h5, h3, by rw [hl]; exact h4, w.tup rs (r1.rep _)⟩))
      · by_cases h6 : j = 0
        · subst h6
          exact .inr (.inr (.inr (.inl ⟨a, vs, rfl, ry.int, by rw [hK]; exact ha, ne, w.tup rs .nil⟩)))
        · have h7 : j = 1 := by omega
          subst h7
          refine .inr (.inr (.inr (.inr ⟨a, vs, rfl, ry.int, by rw [hK]; exact ha, ne, w.at rs ?_⟩)))
          have e1 : (List.replicate (1 : Int).toNat xs).flatten = xs := by
            show (List.replicate 1 xs).flatten = xs
            simp
          rw [e1]
          exact rx.rp
    case lst.int xs j =>
      obtain ⟨⟨⟨h1, h2⟩, h3⟩, rfl⟩ := e
      obtain ⟨a, vs, rfl, ha, r1⟩ := rx.lst
      exact .inr (.inl ⟨a, j, vs, rfl, ry.int, ha, by omega, by omega, by rw [r1.length, ← line_eq]; exact h3, w.lst rs (r1.rep _)⟩)
  case FloorDiv =>
    refine ⟨_, op_fdivV, fun {g H S Q p q z vx vy} e rs rx ry w => ?_⟩
    cases p <;> cases q <;> simp [bin] at e
    obtain ⟨h, rfl⟩ := e
    exact ⟨_, _, rx.int, ry.int, h, w.int rs⟩
  case Mod =>
    refine ⟨_, op_mod, fun {g H S Q p q z vx vy} e rs rx ry w => ?_⟩
    cases p <;> cases q <;> simp [bin] at e
    obtain ⟨h, rfl⟩ := e
    exact ⟨_, _, rx.int, ry.int, h, w.int rs⟩
  case Pow =>
    refine ⟨_, op_powV, fun {g H S Q p q z vx vy} e rs rx ry w => ?_⟩
    cases p <;> cases q <;> simp [bin] at e
    obtain ⟨h, rfl⟩ := e
    exact ⟨_, _, rx.int, ry.int, h, w.int rs⟩

/-! ### comparisons -/
def opC : CmpOp → Co
  | .Eq => .eq
  | .NotEq => .ne
  | .Lt => .lt
  | .LtE => .le
  | .Gt => .gt
  | .GtE => .ge
  | .Is => .is
  | .IsNot => .isn
  | .In => .inn
  | .NotIn => .nin
def rInT (K : PySem.W.Frag) (neg : Bool) : R2 := fun x y H Q => ∃ d ds, Dp K H x d ∧ (Dp K H y (.list ds) ∨ Dp K H y (.tuple ds)) ∧ SeqAt.shaped d = true ∧ SeqAt.shaped (.list ds) = true ∧ Q (.bl (if neg then !ds.any fun z => PyData.eqv z d else ds.any fun z => PyData.eqv z d)) H
theorem shaped_tup {ds : List PyData} (h : SeqAt.shaped (.list ds) = true) : SeqAt.shaped (.tuple ds) = true := by
  simpa [SeqAt.shaped, PyData.canLay0, PyData.depth] using h
theorem op_inT (hu : X.A.units + 65 < cLine) : OpR X (compareOp .In) (rInT X.K false) := by
  intro pins s σ H x y v u Q I rx ry h
  obtain ⟨d, ds, hd, he, sd, se, q⟩ := h
  obtain ⟨as, r1⟩ := Dp.reads I d x v hd rx
  rcases he with he | he
  · obtain ⟨bs, r2⟩ := Dp.reads I (.list ds) y u he ry
    exact SeqAt.in_list_reads r2 r1 (SeqAt.canLay_of_shaped se) (SeqAt.canLay_of_shaped sd) (room_in_shaped sd hu) ⟨.bl _, H, I, rfl, q⟩
  · obtain ⟨bs, r2⟩ := Dp.reads I (.tuple ds) y u he ry
    exact SeqAt.in_tuple_reads r2 r1 (SeqAt.canLay_of_shaped (shaped_tup se)) (SeqAt.canLay_of_shaped sd) (room_in_shaped sd hu) ⟨.bl _, H, I, rfl, q⟩
theorem op_ninT (hu : X.A.units + 65 < cLine) : OpR X (compareOp .NotIn) (rInT X.K true) := by
  intro pins s σ H x y v u Q I rx ry h
  obtain ⟨d, ds, hd, he, sd, se, q⟩ := h
  obtain ⟨as, r1⟩ := Dp.reads I d x v hd rx
  rcases he with he | he
  · obtain ⟨bs, r2⟩ := Dp.reads I (.list ds) y u he ry
    exact SeqAt.notIn_list_reads r2 r1 (SeqAt.canLay_of_shaped se) (SeqAt.canLay_of_shaped sd) (room_in_shaped sd hu) ⟨.bl _, H, I, rfl, q⟩
  · obtain ⟨bs, r2⟩ := Dp.reads I (.tuple ds) y u he ry
    exact SeqAt.notIn_tuple_reads r2 r1 (SeqAt.canLay_of_shaped (shaped_tup se)) (SeqAt.canLay_of_shaped sd) (room_in_shaped sd hu) ⟨.bl _, H, I, rfl, q⟩
theorem RR.non_iff {v : V} {p : P} {b : Bool} (h : RR k g H v p) (e : isNon p = some b) : decide (v = .non) = b := by
  rcases h with h | ⟨a, vs, ps, rfl, rfl, _, _⟩
  · cases h <;> first | (cases e; rfl) | (cases e; exact decide_eq_false (fun z => nomatch z)) | cases e
  · cases e
    exact decide_eq_false (fun z => nomatch z)
theorem dats_shaped {ps : List P} (h : dats 63 ps = true) : SeqAt.shaped (.list (toPs ps)) = true := by
  have := dat_shaped (p := .lst ps) (by simpa [dat] using h)
  simpa [toP] using this
theorem inO_spec {vx vy : V} {p q : P} {b : Bool} (e : inO p q = some b) (rx : RR k g H vx p) (ry : RR k g H vy q) :
    (∃ d ds, Dp k.K H vx d ∧ (Dp k.K H vy (.list ds) ∨ Dp k.K H vy (.tuple ds)) ∧ SeqAt.shaped d = true ∧ SeqAt.shaped (.list ds) = true ∧ (ds.any fun z => PyData.eqv z d) = b) ∨
    ∃ (c : Nat) (z : Str), vx = .str ⟨#[c]⟩ ∧ vy = .str z ∧ decide (c ∈ z.cps.toList) = b := by
  unfold inO at e
  split at e
  · rename_i ys
    split at e
    · rename_i hd
      obtain ⟨h1, h2⟩ := Bool.and_eq_true_iff.mp hd
      have hy := ry.dp (p := .tup ys) (by simpa [dat] using h2)
      exact .inl ⟨_, _, rx.dp h1, .inr (by simpa [toP] using hy), dat_shaped h1, dats_shaped h2, Option.some.inj e⟩
    · cases e
  · rename_i ys
    split at e
    · rename_i hd
      obtain ⟨h1, h2⟩ := Bool.and_eq_true_iff.mp hd
      have hy := ry.dp (p := .lst ys) (by simpa [dat] using h2)
      exact .inl ⟨_, _, rx.dp h1, .inl (by simpa [toP] using hy), dat_shaped h1, dats_shaped h2, Option.some.inj e⟩
    · cases e
  · rename_i x y
    split at e
    · rename_i c hc
      refine .inr ⟨c, y, ?_, ry.str, Option.some.inj e⟩
      rw [rx.str]
      congr 1
      obtain ⟨⟨l⟩⟩ := x
      simp only at hc
      rw [hc]
    · cases e
  · cases e
theorem cmp_rule (op : CmpOp) (hK : X.K = k.K) (hu : X.A.units + 65 < cLine) : ∃ r, OpR X (compareOp op) r ∧
    ∀ {g H S Q p q b vx vy}, cmpo (opC op) p q = some b → RS k g H S → RR k g H vx p → RR k g H vy q → Q (.bl b) H → r vx vy H Q := by
  cases op <;> simp only [opC]
  case Eq =>
    refine ⟨_, op_eq.or (op_eqD (by omega)), fun {g H S Q p q b vx vy} e rs rx ry w => ?_⟩
    simp only [cmpo] at e
    unfold eqO at e
    split at e
    · rename_i x y
      have hx := rx.str
      have hy := ry.str
      subst hx hy
      refine .inl ⟨rfl, ?_⟩
      rw [dec_str, Bool.beq_eq_decide_eq]
      have e' := Option.some.inj e
      subst e'
      exact w
    · unfold eqD at e
      split at e
      · rename_i hd
        obtain ⟨h1, h2⟩ := Bool.and_eq_true_iff.mp hd
        have e' := Option.some.inj e
        subst e'
        exact .inr ⟨_, _, by rw [hK]; exact rx.dp h1, by rw [hK]; exact ry.dp h2, dat_shaped h1, dat_shaped h2, w⟩
      · cases e
  case NotEq =>
    refine ⟨_, op_ne.or (op_neD (by omega)), fun {g H S Q p q b vx vy} e rs rx ry w => ?_⟩
    simp only [cmpo] at e
    unfold eqO at e
    split at e
    · rename_i x y
      have hx := rx.str
      have hy := ry.str
      subst hx hy
      refine .inl ⟨rfl, ?_⟩
      rw [dec_str, Bool.beq_eq_decide_eq]
      have e' := Option.some.inj e
      subst e'
      exact w
    · unfold eqD at e
      split at e
      · rename_i hd
        obtain ⟨h1, h2⟩ := Bool.and_eq_true_iff.mp hd
        have e' := Option.some.inj e
        subst e'
        exact .inr ⟨_, _, by rw [hK]; exact rx.dp h1, by rw [hK]; exact ry.dp h2, dat_shaped h1, dat_shaped h2, w⟩
      · cases e
  case Lt =>
    refine ⟨_, op_lt.or op_lt_str, fun {g H S Q p q b vx vy} e rs rx ry w => ?_⟩
    cases p <;> cases q <;> simp only [cmpo] at e <;> first | (cases e; done) | skip
    · have e' := Option.some.inj e; subst e'
      exact .inl ⟨_, _, rx.int, ry.int, w⟩
    · have e' := Option.some.inj e; subst e'
      exact .inr ⟨_, _, rx.str, ry.str, w⟩
  case LtE =>
    refine ⟨_, op_le.or op_le_str, fun {g H S Q p q b vx vy} e rs rx ry w => ?_⟩
    cases p <;> cases q <;> simp only [cmpo] at e <;> first | (cases e; done) | skip
    · have e' := Option.some.inj e; subst e'
      exact .inl ⟨_, _, rx.int, ry.int, w⟩
    · have e' := Option.some.inj e; subst e'
      exact .inr ⟨_, _, rx.str, ry.str, w⟩
  case Gt =>
    refine ⟨_, op_gt.or op_gt_str, fun {g H S Q p q b vx vy} e rs rx ry w => ?_⟩
    cases p <;> cases q <;> simp only [cmpo] at e <;> first | (cases e; done) | skip
    · have e' := Option.some.inj e; subst e'
      exact .inl ⟨_, _, rx.int, ry.int, w⟩
    · have e' := Option.some.inj e; subst e'
      exact .inr ⟨_, _, rx.str, ry.str, w⟩
  case GtE =>
    refine ⟨_, op_ge.or op_ge_str, fun {g H S Q p q b vx vy} e rs rx ry w => ?_⟩
    cases p <;> cases q <;> simp only [cmpo] at e <;> first | (cases e; done) | skip
    · have e' := Option.some.inj e; subst e'
      exact .inl ⟨_, _, rx.int, ry.int, w⟩
    · have e' := Option.some.inj e; subst e'
      exact .inr ⟨_, _, rx.str, ry.str, w⟩
  case Is =>
    refine ⟨_, op_isN, fun {g H S Q p q b vx vy} e rs rx ry w => ?_⟩
    cases q <;> simp only [cmpo] at e <;> first | (cases e; done) | skip
    refine ⟨ry.non, ?_⟩
    rw [rx.non_iff e]; exact w
  case IsNot =>
    refine ⟨_, op_notN, fun {g H S Q p q b vx vy} e rs rx ry w => ?_⟩
    cases q <;> simp only [cmpo] at e <;> first | (cases e; done) | skip
    refine ⟨ry.non, ?_⟩
    obtain ⟨c, e1, e2⟩ := Option.map_eq_some_iff.mp e
    rw [rx.non_iff e1, e2]; exact w
  case In =>
    refine ⟨_, (op_inT hu).or op_in_sign, fun {g H S Q p q b vx vy} e rs rx ry w => ?_⟩
    simp only [cmpo] at e
    rcases inO_spec e rx ry with ⟨d, ds, h1, h2, h3, h4, h5⟩ | ⟨c, z, h1, h2, h3⟩
    · exact .inl ⟨d, ds, by rw [hK]; exact h1, by rw [hK]; exact h2, h3, h4, by simpa [h5] using w⟩
    · exact .inr ⟨c, z, h1, h2, by rw [h3]; exact w⟩
  case NotIn =>
    refine ⟨_, (op_ninT hu).or op_notIn_sign, fun {g H S Q p q b vx vy} e rs rx ry w => ?_⟩
    simp only [cmpo] at e
    obtain ⟨b', e', rfl⟩ := Option.map_eq_some_iff.mp e
    rcases inO_spec e' rx ry with ⟨d, ds, h1, h2, h3, h4, h5⟩ | ⟨c, z, h1, h2, h3⟩
    · exact .inl ⟨d, ds, by rw [hK]; exact h1, by rw [hK]; exact h2, h3, h4, by simpa [h5] using w⟩
    · exact .inr ⟨c, z, h1, h2, by rw [h3]; exact w⟩
/-- truth -/
theorem tru_spec {v : V} {p : P} {b : Bool} (e : tru p = some b) (r : RR k g H v p) : TruV k.K v H b := by
  cases p <;> simp only [tru] at e <;> first | (cases e; done) | skip
  · rw [r.non]; exact (Option.some.inj e).symm
  · rw [r.bl]; exact (Option.some.inj e).symm
  · rw [r.int]; exact (Option.some.inj e).symm
  · rw [r.str]
    split at e
    · rename_i h
      refine ⟨by rw [← line_eq]; exact h, ?_⟩
      rw [← Option.some.inj e]
      rename_i x
      generalize x.length = n
      cases n with
      | zero => rfl
      | succ m =>
        have h1 : (m + 1 != 0) = true := by simp
        have h2 : (((m + 1 : Nat) : Int) != 0) = true := by
          rw [bne_iff_ne]; omega
        rw [h1, h2]
    · cases e
  · obtain ⟨a, vs, rfl, ha, r1⟩ := r.tup
    refine .inr (.inl ⟨vs, ha, ?_⟩)
    rw [← Option.some.inj e]
    cases r1 <;> rfl
  · obtain ⟨a, vs, rfl, ha, r1⟩ := r.lst
    refine .inl ⟨vs, .inl (.inl ha), ?_⟩
    rw [← Option.some.inj e]
    cases r1 <;> rfl

/-! ### items, slices -/
theorem ixN_eq (n : Nat) (i : Int) : Mn.ixN n i = L2.ixN n i := rfl
/-- a dict, subscripted by a key that it has -/
def rIxK : R2 := fun x y H Q => ∃ a kvs key v, x = .ref a ∧ y = kV key ∧ Rd H a (.dK kvs) ∧ valV kvs key = some v ∧ Q v H
theorem ix_dk : IxR X rIxK := by
  intro value slice pins s σ H x y v u Q I rx ry h hs
  obtain ⟨a, kvs, key, z, rfl, rfl, ha, hv, q⟩ := h
  obtain rfl : v = Value.ref a := rx
  obtain ⟨_, _, vs, rel, dd⟩ := dk_rd I.hok ha
  obtain ⟨w', hw, rw'⟩ := RelO.some_of (v := z) (o := valueAt vs key) (by rw [← hv]; exact rel.val key)
  exact tail_any dd.typeIs slot_dict_getitem.lookup (wpAny_getItem_of (kV_is ry) dd.mapOf hw ⟨z, H, I.tok _, rw', q⟩) hs
def rIxA (K : PySem.W.Frag) : R2 := fun x y H Q => rIx K x y H Q ∨ rIxK x y H Q
theorem item_ix : IxR X (rIxA X.K) := ix_seq.or ix_dk
theorem RPs.val {g : Gs} {H : Hp} {key : Key} : ∀ {ks : List Key} {vs : List V} {ps : List P} {z : P}, RPs k.toKg g H vs ps → ((ks.zip ps).find? fun kv => decide (kv.1 = key)).map (·.2) = some z → ∃ v, valV (ks.zip vs) key = some v ∧ RP k.toKg g H v z
  | [], _, _, _, _, e => by simp at e
  | _ :: _, _, [], _, h, e => by simp at e
  | c :: ks, _, p :: ps, z, h, e => by
    cases h with
    | @cons v vs _ _ a b =>
      unfold valV
      rw [List.zip_cons_cons, List.find?_cons] at e ⊢
      by_cases hc : c = key
      · rw [show (decide ((c, p).1 = key)) = true from decide_eq_true hc] at e
        rw [show (decide ((c, v).1 = key)) = true from decide_eq_true hc]
        cases e
        exact ⟨v, rfl, a⟩
      · rw [show (decide ((c, p).1 = key)) = false from decide_eq_false hc] at e
        rw [show (decide ((c, v).1 = key)) = false from decide_eq_false hc]
        exact RPs.val (ks := ks) b e
theorem item_spec {p q z : P} {vx vy : V} (hK : X.K = k.K) (e : item p q = some z) (rs : RS k g H S) (rx : RP k g H vx p) (ry : RP k g H vy q) (w : Want k g H S (.p z) Q) : rIxA X.K vx vy H Q := by
  cases q <;> cases p <;> simp only [item] at e <;> first | (cases e; done) | skip
  case int.dct =>
    cases rx with
    | dct t l n r =>
      obtain ⟨v, h1, h2⟩ := RPs.val r e
      cases ry
      exact .inr ⟨_, _, .inl _, v, rfl, rfl, .inr ⟨_, t⟩, h1, w.at rs h2⟩
  case str.dct =>
    cases rx with
    | dct t l n r =>
      obtain ⟨v, h1, h2⟩ := RPs.val r e
      cases ry
      exact .inr ⟨_, _, .inr _, v, rfl, rfl, .inr ⟨_, t⟩, h1, w.at rs h2⟩
  · -- a text
    rename_i i x
    split at e
    · rename_i hl
      obtain ⟨j, h1, h2⟩ := Option.bind_eq_some_iff.mp e
      obtain ⟨c, h3, rfl⟩ := Option.map_eq_some_iff.mp h2
      cases rx
      cases ry
      refine .inl (.inr (.inr ⟨x, i, c, rfl, rfl, by rw [← line_eq]; exact hl, ?_, w.str rs⟩))
      show (L2.ixN x.cps.toList.length i).bind _ = _
      rw [← ixN_eq, h1]; exact h3
    · cases e
  · rename_i i ps
    obtain ⟨j, h1, h2⟩ := Option.bind_eq_some_iff.mp e
    cases rx with
    | tup t r =>
      cases ry
      obtain ⟨v, e1, r1⟩ := r.get h2
      refine .inl (.inr (.inl ⟨_, _, i, v, rfl, rfl, by rw [hK]; exact t.sq, ?_, w.at rs r1⟩))
      show (L2.ixN _ i).bind _ = _
      rw [r.length, ← ixN_eq, h1]; exact e1
  · rename_i i ps
    obtain ⟨j, h1, h2⟩ := Option.bind_eq_some_iff.mp e
    cases rx with
    | lst t _ r =>
      cases ry
      obtain ⟨v, e1, r1⟩ := r.get h2
      refine .inl (.inl ⟨_, _, i, v, rfl, rfl, .inl (.inl t), ?_, w.at rs r1⟩)
      show (L2.ixN _ i).bind _ = _
      rw [r.length, ← ixN_eq, h1]; exact e1
  · rename_i i ns
    obtain ⟨j, h1, h2⟩ := Option.bind_eq_some_iff.mp e
    obtain ⟨m, h3, rfl⟩ := Option.map_eq_some_iff.mp h2
    cases rx with
    | scr t =>
      cases ry
      refine .inl (.inl ⟨_, _, i, .int m, rfl, rfl, by rw [hK]; exact t.sq, ?_, w.int rs⟩)
      show (L2.ixN _ i).bind _ = _
      rw [List.length_map, ← ixN_eq, h1]
      show (ns.map V.int)[j]? = _
      rw [List.getElem?_map, h3]; rfl
theorem item_cell {n j : Nat} {i : Int} {ds : List D} {d : D} {vx vy : V} (rs : RS k g H S) (rx : RD k g H vx (.ref n)) (ry : RD k g H vy (.p (.int i))) (hc : S[n]? = some (MO.lst ds)) (h1 : Mn.ixN ds.length i = some j) (h2 : ds[j]? = some d)
    (w : Want k g H S d Q) : rIxA X.K vx vy H Q := by
  obtain ⟨a, rfl, e⟩ := rx
  obtain ⟨vs, h3, h4⟩ := rs.cell n a ds e hc
  cases (show RP k g H vy (.int i) from ry)
  obtain ⟨v, e1, r1⟩ := h4.get h2
  refine .inl (.inl ⟨_, _, i, v, rfl, rfl, .inl (.inl h3), ?_, w.at rs r1⟩)
  show (L2.ixN _ i).bind _ = _
  rw [h4.length, ← ixN_eq, h1]; exact e1
end
end Mn
/-! Mn6: the built-in functions by values. -/
namespace Mn
open L2 PyProof.Rows PySem.Spec PySem
/-! ### the length of a text of data -/
theorem int_txt {i : Int} (h : i.natAbs.log2 < 1920) : (toString i : Str).length ≤ 1921 := PyProof.Rows.int_text_len_1921 h
theorem okS_repr {x : Str} (h : okS x = true) : (reprText x).length ≤ 10 * x.length + 2 := by
  refine StrLaws.reprText_len x fun c hc => ?_
  unfold okS at h
  have := Nat.le_of_ble_eq_true (List.all_eq_true.mp h c hc)
  have e : (16 : Nat) ^ 8 = 4294967296 := by decide
  omega
theorem tupT_le (ts : List Str) : (tupleText ts).length ≤ piled ts + 3 := by
  unfold tupleText
  rw [strLen_append, strLen_append]
  have e1 : ((("(" : String) : Str)).length = 1 := rfl
  have e3 : (((if ts.length == 1 then ",)" else ")" : String) : Str)).length ≤ 2 := by split <;> decide
  rw [e1]
  cases ts with
  | nil =>
    have : (Str.join ", " []).length = 0 := rfl
    omega
  | cons t r =>
    have := join_length_add (t :: r) (by simp)
    omega
theorem lstT_le : ∀ ts : List Str, (listText ts).length ≤ piled ts + 3
  | [] => by decide
  | t :: r => by
    have h := textFrom_length_pos r 1 (("[" : Str) ++ (if (0 : Nat) > 0 then ", " else "" : String) ++ t) (Nat.succ_pos 0)
    have e : ((("[" : Str) ++ (if (0 : Nat) > 0 then ", " else "" : String) ++ t)).length = 1 + t.length := by
      rw [strLen_append, strLen_append]; rfl
    have a : (listText (t :: r)).length = (textFrom 1 (("[" : Str) ++ (if (0 : Nat) > 0 then ", " else "" : String) ++ t) r).length + 1 := by
      unfold listText
      rw [strLen_append]
      rfl
    rw [a, h, e, piled_cons]
    omega
mutual
theorem txt_len : ∀ {p : P} {n m : Nat}, txt p = some n → dat m p = true → (PyData.shown (toP p)).length ≤ n ∧ PyData.showable (toP p) = true
  | .non, n, _, h, _ => by
    have e := Option.some.inj h
    subst e
    exact ⟨by decide +kernel, rfl⟩
  | .bl b, n, _, h, _ => by
    have e := Option.some.inj h
    subst e
    exact ⟨by cases b <;> decide +kernel, rfl⟩
  | .int i, n, _, h, _ => by
    unfold txt at h
    split at h
    · rename_i hl
      have e := Option.some.inj h
      subst e
      exact ⟨int_txt hl, by simpa [toP, PyData.showable] using hl⟩
    · cases h
  | .str x, n, m, h, hd => by
    have e := Option.some.inj h
    subst e
    exact ⟨okS_repr (by cases m <;> simpa [dat] using hd), rfl⟩
  | .tup ps, n, m, h, hd => by
    unfold txt at h
    obtain ⟨b, hb, rfl⟩ := Option.map_eq_some_iff.mp h
    cases m with
    | zero => simp [dat] at hd
    | succ m =>
      obtain ⟨h1, h2⟩ := txts_len hb (m := m) (by simpa [dat] using hd)
      refine ⟨?_, by simpa [toP, PyData.showable] using h2⟩
      simp only [toP, PyData.shown]
      exact Nat.le_trans (tupT_le _) (by omega)
  | .lst ps, n, m, h, hd => by
    unfold txt at h
    obtain ⟨b, hb, rfl⟩ := Option.map_eq_some_iff.mp h
    cases m with
    | zero => simp [dat] at hd
    | succ m =>
      obtain ⟨h1, h2⟩ := txts_len hb (m := m) (by simpa [dat] using hd)
      refine ⟨?_, by simpa [toP, PyData.showable] using h2⟩
      simp only [toP, PyData.shown]
      exact Nat.le_trans (lstT_le _) (by omega)
  | .dct _ _, _, _, h, _ => by cases h
  | .fn _, _, _, h, _ => by cases h
  | .lamc _, _, _, h, _ => by cases h
  | .scr _, _, _, h, _ => by cases h
theorem txts_len : ∀ {ps : List P} {n m : Nat}, txts ps = some n → dats m ps = true → piled (PyData.shownAll (toPs ps)) ≤ n ∧ PyData.showableAll (toPs ps) = true
  | [], n, _, h, _ => ⟨Nat.zero_le _, rfl⟩
  | p :: ps, n, m, h, hd => by
    simp only [dats, Bool.and_eq_true] at hd
    unfold txts at h
    split at h
    · rename_i a b h1 h2
      have e := Option.some.inj h
      subst e
      obtain ⟨q1, q2⟩ := txt_len h1 hd.1
      obtain ⟨q3, q4⟩ := txts_len h2 hd.2
      refine ⟨?_, by simp only [toPs, PyData.showableAll, q2, q4, Bool.and_self]⟩
      simp only [toPs, PyData.shownAll, piled_cons]
      omega
    · cases h
end
section
variable {X : Cx} {k : Ka}
theorem Dp.noDict {K : PySem.W.Frag} {H : Hp} : ∀ {d : PyData} {v : V}, Dp K H v d → PyData.canLay0 d = true → d.hasDict = false := fun _ h => PyData.hasDict_of_canLay _ h
/-- repr of data -/
def rRepr (K : PySem.W.Frag) : List V → Hp → VK → Prop := fun xs H Q => ∃ x d, xs = [x] ∧ Dp K H x d ∧ SeqAt.shaped d = true ∧ d.showable = true ∧ d.shown.length ≤ sizeLine ∧ Q (.str d.shown) H
theorem call_repr (hg : X.A.guards = some []) (hu : X.A.units + 66 < cLine) : CallR X (.builtin "repr") (rRepr X.K) := by
  intro pins s σ H xs us Q I r h
  obtain ⟨x, d, rfl, hd, hs, hw, hz, q⟩ := h
  obtain ⟨u, rfl, ru⟩ := vals1 r
  obtain ⟨as, rd⟩ := Dp.reads I d x u hd ru
  have hnd := PyData.hasDict_of_canLay d (SeqAt.canLay_of_shaped hs)
  have hdp := SeqAt.depth_of_shaped hs
  have scal : ∀ y : Str, y = d.shown → Q (.str y) H := fun y e => e ▸ q
  cases hd with
  | non => cases (show u = Value.none from ru); exact PySem.P.repr_of_none ⟨.str _, H, I.tok _, ⟨_, rfl⟩, scal _ rfl⟩
  | bl b => cases (show u = Value.bool b from ru); exact PySem.P.repr_of_bool ⟨.str _, H, I.tok _, ⟨_, rfl⟩, scal _ rfl⟩
  | int i =>
    obtain ⟨t, rfl⟩ := (show ∃ t, u = Value.int i t from ru)
    exact PySem.P.repr_of_int (by simpa [PyData.showable] using hw) ⟨.str _, H, I.tok _, ⟨_, rfl⟩, scal _ rfl⟩
  | str y =>
    obtain ⟨t, rfl⟩ := (show ∃ t, u = Value.str y t from ru)
    exact PySem.P.repr_of_str (h := ⟨.str _, H, I.tok _, ⟨_, rfl⟩, scal _ rfl⟩) (hsz := hz)
  | lst _ _ =>
    rename_i a _ _ _ _
    cases (show u = Value.ref a from ru)
    exact repr_of_reads' rd hw (PyData.noDict_hsm hnd) hg (by omega) (fun _ _ e => e) (fun h' t tk hk => ⟨.str _, H, I.kept (t' := tk) hk, ⟨_, rfl⟩, q⟩) hz
  | tup _ _ =>
    rename_i a _ _ _ _
    cases (show u = Value.ref a from ru)
    exact repr_of_reads' rd hw (PyData.noDict_hsm hnd) hg (by omega) (fun _ _ e => e) (fun h' t tk hk => ⟨.str _, H, I.kept (t' := tk) hk, ⟨_, rfl⟩, q⟩) hz

/-! dicts of scalars -/
theorem keyD_reads {h : Heap} {ky : Key} {v : Value} (e : keyIs ky v = true) : Reads h v (toP (keyD ky)) [] := by
  rcases keyIs_shape e with ⟨i, t, rfl, rfl⟩ | ⟨x, t, rfl, rfl⟩
  · exact Reads.int i t
  · exact Reads.str x t
theorem scal_reads {k : Kg} {g : Gs} {H : Hp} {h : Heap} {p : P} {v : V} {u : Value} (r : RP k g H v p) (e : scal1 p = true) (ru : RelV v u) : Reads h u (toP p) [] := by
  cases r <;> first | (cases e; done) | skip
  · cases (show u = Value.none from ru); exact Reads.none
  · rename_i b
    cases (show u = Value.bool b from ru); exact Reads.bool b
  · obtain ⟨t, rfl⟩ := ru; exact Reads.int _ t
  · obtain ⟨t, rfl⟩ := ru; exact Reads.str _ t
theorem dct_reads {P' : Program} {w : World} {k : Kg} {g : Gs} {H : Hp} {h : Heap} : ∀ {ks : List Key} {ps : List P} {vs : List V} {es : List DictEntry} {kv : List (Key × Value)}, ks.length = ps.length → RPs k g H vs ps → ps.all scal1 = true → KV (ks.zip vs) kv → Pairs (mixKind P' w) es kv →
    ReadsAll h (es.map (·.key)) (((toPs (ks.map keyD)).zip (toPs ps)).map (·.1)) [] ∧ ReadsAll h (es.map (·.val)) (((toPs (ks.map keyD)).zip (toPs ps)).map (·.2)) []
  | [], [], _, es, kv, _, r, _, q, pr => by
    cases r
    cases q
    cases pr
    exact ⟨.nil, .nil⟩
  | ky :: ks, p :: ps, _, es, kv, hl, r, hs, q, pr => by
    cases r with
    | cons a b =>
      rw [List.all_cons, Bool.and_eq_true] at hs
      cases q with
      | cons q1 q2 =>
        cases pr with
        | cons c1 c2 c3 =>
          obtain ⟨i1, i2⟩ := dct_reads (h := h) (Nat.succ.inj hl) b hs.2 q2 c3
          obtain ⟨e1, e2⟩ := q1
          refine ⟨ReadsAll.cons (as := []) (keyD_reads (by rw [show ky = _ from e1]; exact c1)) i1, ReadsAll.cons (as := []) (scal_reads a hs.1 (show RelV _ _ from (by have z := e2; rw [← c2] at z; exact z))) i2⟩
  | [], _ :: _, _, _, _, hl, _, _, _, _ => by cases hl
  | _ :: _, [], _, _, _, hl, _, _, _, _ => by cases hl
theorem dct_of {pins : List (Addr × Obj)} {σ : Ls} {g : Gs} {H : Hp} {s : Shared} {a : Addr} {ks : List Key} {vs : List V} {ps : List P} {ob : Obj} (I : Inv X pins σ H s) (ha : H a = some (.frz ob (.dK (ks.zip vs)))) (hl : ks.length = ps.length) (r : RPs k g H vs ps) (hs : ps.all scal1 = true) :
    ∃ as, Reads s.heap (.ref a) (toDc ks ps) as ∧ sysModules ∉ as := by
  obtain ⟨_, _, hn, kv, q, o, es, ep, ho, hx, hd, _, pr, _⟩ := I.hok a _ ha
  obtain ⟨i1, i2⟩ := dct_reads (h := s.heap) hl r hs q pr
  refine ⟨_, Reads.dict ho hx.1 hd i1 i2, fun z => ?_⟩
  have z : sysModules = a := by simpa using z
  rw [z] at hn
  simp at hn
def rReprD : List V → Hp → VK → Prop := fun xs H Q => ∃ (k : Kg) (g : Gs) (a : Addr) (ob : Obj) (ks : List Key) (vs : List V) (ps : List P), xs = [.ref a] ∧ H a = some (.frz ob (.dK (ks.zip vs))) ∧ ks.length = ps.length ∧ RPs k g H vs ps ∧ ps.all scal1 = true ∧ (toDc ks ps).showable = true ∧ (toDc ks ps).shown.length ≤ sizeLine ∧ (toDc ks ps).depth ≤ 1 ∧ Q (.str (toDc ks ps).shown) H
theorem call_reprD (hg : X.A.guards = some []) (hu : X.A.units + 66 < cLine) : CallR X (.builtin "repr") rReprD := by
  intro pins s σ H xs us Q I r h
  obtain ⟨k, g, a, ob, ks, vs, ps, rfl, ha, hl, rp, hs, hw, hz, hd, q⟩ := h
  obtain ⟨u, rfl, ru⟩ := vals1 r
  cases (show u = Value.ref a from ru)
  obtain ⟨as, rd, hm⟩ := dct_of (k := ⟨k, s.heap, H, 0, fun _ => none, [], none⟩) I ha hl rp hs
  exact repr_of_reads' rd hw (fun _ => hm) hg (by omega) (fun _ _ e => e) (fun h' t tk hk => ⟨.str _, H, I.kept (t' := tk) hk, ⟨_, rfl⟩, q⟩) hz
theorem scal_depth : ∀ {p : P}, scal1 p = true → (toP p).depth = 0
  | .non, _ => by simp [toP, PyData.depth]
  | .bl _, _ => by simp [toP, PyData.depth]
  | .int _, _ => by simp [toP, PyData.depth]
  | .str _, _ => by simp [toP, PyData.depth]
  | .tup _, h => by cases h
  | .lst _, h => by cases h
  | .dct _ _, h => by cases h
  | .fn _, h => by cases h
  | .lamc _, h => by cases h
  | .scr _, h => by cases h
theorem keyD_scal (ky : Key) : scal1 (keyD ky) = true := by
  cases ky <;> rfl
theorem dct_depth : ∀ {ks : List Key} {ps : List P}, ps.all scal1 = true → PyData.depthKv ((toPs (ks.map keyD)).zip (toPs ps)) = 0
  | [], _, _ => by simp [toPs, PyData.depthKv]
  | _ :: _, [], _ => by simp [toPs, PyData.depthKv]
  | ky :: ks, p :: ps, h => by
    rw [List.all_cons, Bool.and_eq_true] at h
    simp only [List.map_cons, toPs, List.zip_cons_cons, PyData.depthKv, scal_depth h.1, scal_depth (keyD_scal ky), dct_depth h.2]
    rfl
theorem reprD_some {ks : List Key} {ps : List P} {m : Nat} {y : Str} (h : reprD ks ps m = some y) : ps.all scal1 = true ∧ (toDc ks ps).showable = true ∧ (toDc ks ps).shown.length + m ≤ sizeLine ∧ (toDc ks ps).depth ≤ 1 ∧ y = (toDc ks ps).shown := by
  unfold reprD at h
  split at h
  · rename_i e
    simp only [Bool.and_eq_true] at e
    cases h
    refine ⟨e.1.1, e.1.2, by rw [← line_eq]; exact Nat.le_of_ble_eq_true e.2, ?_, rfl⟩
    unfold toDc
    simp only [PyData.depth, dct_depth e.1.1]
    exact Nat.le_refl _
  · cases h

inductive RRs (k : Kg) (g : Gs) (H : Hp) : List V → List P → Prop
  | nil : RRs k g H [] []
  | cons {v : V} {vs : List V} {p : P} {ps : List P} : RR k g H v p → RRs k g H vs ps → RRs k g H (v :: vs) (p :: ps)
theorem ders_rrs {g : Gs} {H : Hp} {S : Sto} (rs : RS k g H S) : ∀ {ds : List D} {ps : List P} {vs : List V}, ders S ds = some ps → RDs k g H vs ds → RRs k g H vs ps
  | [], ps, _, e, h => by
    cases h
    cases e
    exact .nil
  | d :: ds, ps, _, e, h => by
    cases h with
    | cons a b =>
      unfold ders at e
      split at e
      · rename_i p qs h1 h2
        cases e
        exact .cons (a.der rs h1) (ders_rrs rs h2 b)
      · cases e
def nmB : Bi → Str
  | .len => "len" | .abs => "abs" | .int => "int" | .str => "str" | .repr => "repr" | .all => "all" | .any => "any"
  | .tuple => "tuple" | .list => "list" | .sorted => "sorted" | .max => "max" | .min => "min" | .sum => "sum"
def fnB : Bi → Value
  | .len => .builtin "len" | .abs => .builtin "abs" | .int => .type "int" | .str => .type "str" | .repr => .builtin "repr" | .all => .builtin "all" | .any => .builtin "any"
  | .tuple => .type "tuple" | .list => .type "list" | .sorted => .builtin "sorted" | .max => .builtin "max" | .min => .builtin "min" | .sum => .builtin "sum"
theorem nmB_boot (b : Bi) : bootBuiltins (nmB b) = some (fnB b) ∧ nmB b ≠ "__name__" ∧ (nmB b == ("__debug__" : Str)) = false := by
  cases b <;> exact ⟨by decide +kernel, by decide +kernel, by decide +kernel⟩
theorem bools_spec {g : Gs} {H : Hp} : ∀ {ps : List P} {bs : List Bool} {vs : List V}, bools ps = some bs → RPs k g H vs ps → vs = bs.map V.bl
  | [], bs, _, e, h => by cases h; cases e; rfl
  | .bl b :: ps, bs, _, e, h => by
    cases h with
    | cons a r =>
      obtain ⟨cs, h1, rfl⟩ := Option.map_eq_some_iff.mp (show (bools ps).map (b :: ·) = some bs from e)
      cases a
      rw [bools_spec h1 r]; rfl
  | .non :: _, _, _, e, _ => by cases e
  | .int _ :: _, _, _, e, _ => by cases e
  | .str _ :: _, _, _, e, _ => by cases e
  | .tup _ :: _, _, _, e, _ => by cases e
  | .lst _ :: _, _, _, e, _ => by cases e
  | .dct _ _ :: _, _, _, e, _ => by cases e
  | .fn _ :: _, _, _, e, _ => by cases e
  | .lamc _ :: _, _, _, e, _ => by cases e
  | .scr _ :: _, _, _, e, _ => by cases e
theorem RRs.one {k : Kg} {g : Gs} {H : Hp} {vs : List V} {p : P} (h : RRs k g H vs [p]) : ∃ v, vs = [v] ∧ RR k g H v p := by
  cases h with
  | cons a b => cases b; exact ⟨_, rfl, a⟩
theorem RRs.two {k : Kg} {g : Gs} {H : Hp} {vs : List V} {p q : P} (h : RRs k g H vs [p, q]) : ∃ v w, vs = [v, w] ∧ RR k g H v p ∧ RR k g H w q := by
  cases h with
  | cons a b =>
    obtain ⟨w, rfl, r⟩ := b.one
    exact ⟨_, w, rfl, a, r⟩
theorem one_some {f : P → Option P} {ps : List P} {z : P} (h : one f ps = some z) : ∃ x, ps = [x] ∧ f x = some z := by
  match ps, h with
  | [x], h => exact ⟨x, rfl, h⟩
theorem two_some {f : P → P → Option P} {ps : List P} {z : P} (h : two f ps = some z) : ∃ x y, ps = [x, y] ∧ f x y = some z := by
  match ps, h with
  | [x, y], h => exact ⟨x, y, rfl, h⟩
theorem intsP_spec {g : Gs} {H : Hp} : ∀ {ps : List P} {ns : List Int} {vs : List V}, intsP ps = some ns → RPs k g H vs ps → vs = ns.map V.int
  | [], ns, vs, e, r => by
    cases r
    cases e
    rfl
  | p :: ps, ns, vs, e, r => by
    cases r with
    | cons a b =>
      cases p <;> first | (simp [intsP] at e; done) | skip
      rename_i i
      obtain ⟨ms, h1, rfl⟩ := Option.map_eq_some_iff.mp (show (intsP ps).map (i :: ·) = some ns from e)
      cases a
      rw [List.map_cons, ← intsP_spec h1 b]
theorem strsP_spec {g : Gs} {H : Hp} : ∀ {ps : List P} {ns : List Str} {vs : List V}, strsP ps = some ns → RPs k g H vs ps → vs = ns.map V.str
  | [], ns, vs, e, r => by
    cases r
    cases e
    rfl
  | p :: ps, ns, vs, e, r => by
    cases r with
    | cons a b =>
      cases p <;> first | (simp [strsP] at e; done) | skip
      rename_i i
      obtain ⟨ms, h1, rfl⟩ := Option.map_eq_some_iff.mp (show (strsP ps).map (i :: ·) = some ns from e)
      cases a
      rw [List.map_cons, ← strsP_spec h1 b]
theorem rps_ints {g : Gs} {H : Hp} : ∀ ns : List Int, RPs k g H (ns.map V.int) (ns.map P.int)
  | [] => .nil
  | n :: ns => .cons (.int n) (rps_ints ns)
theorem rps_strs {g : Gs} {H : Hp} : ∀ ns : List Str, RPs k g H (ns.map V.str) (ns.map P.str)
  | [] => .nil
  | n :: ns => .cons (.str n) (rps_strs ns)
/-- repr of data or of a dict of scalars -/
def rRep (K : PySem.W.Frag) : List V → Hp → VK → Prop := fun xs H Q => rRepr K xs H Q ∨ rReprD xs H Q
theorem call_rep (hg : X.A.guards = some []) (hu : X.A.units + 66 < cLine) : CallR X (.builtin "repr") (rRep X.K) := (call_repr hg hu).or (call_reprD hg hu)
theorem rep_in {g : Gs} {H : Hp} {S : Sto} {Q : VK} {x z : P} {v : V} (e : repr1 x = some z) (rs : RS k g H S) (r : RR k.toKg g H v x) (w : Want k g H S (.p z) Q) : rRep k.K [v] H Q := by
  unfold repr1 at e
  split at e
  · rename_i ks qs
    obtain ⟨y, h1, rfl⟩ := Option.map_eq_some_iff.mp e
    obtain ⟨s1, s2, s3, s4, rfl⟩ := reprD_some h1
    obtain ⟨a, ob, vs, rfl, ha, hl, r1⟩ := RR.dct r
    exact .inr ⟨_, _, a, ob, ks, vs, qs, rfl, ha, hl, r1, s1, s2, s3, s4, w.str rs⟩
  unfold reprO at e
  split at e
  · rename_i n hn
    split at e
    · rename_i hd
      obtain ⟨h1, h2⟩ := Bool.and_eq_true_iff.mp hd
      have e := Option.some.inj e
      subst e
      obtain ⟨q1, q2⟩ := txt_len hn h1
      have h3 := Nat.le_of_ble_eq_true h2
      exact .inl ⟨v, _, rfl, r.dp h1, dat_shaped h1, q2, by rw [← line_eq]; omega, w.str rs⟩
    · cases e
  · cases e
theorem bi_rule (b : Bi) (hK : X.K = k.K) (hc : X.calm = true) (hg : X.A.guards = some []) (hu : X.A.units + 66 < cLine) : ∃ r, CallR X (fnB b) r ∧
    ∀ {g H S Q ps z vs}, blt b ps = some z → RS k g H S → RRs k g H vs ps → Want k g H S (.p z) Q → r vs H Q := by
  cases b <;> simp only [fnB]
  case len =>
    refine ⟨_, call_len, fun {g H S Q ps z vs} e rs rr w => ?_⟩
    obtain ⟨x, rfl, e1⟩ := one_some e
    clear e
    have e := e1
    clear e1
    obtain ⟨v, rfl, r⟩ := rr.one
    cases x <;> simp only [len1] at e <;> first | (cases e; done) | skip
    · split at e
      · rename_i hl
        have e := Option.some.inj e
        subst e
        exact ⟨v, _, rfl, by rw [r.str]; exact ⟨by rw [← line_eq]; exact hl, rfl⟩, w.int rs⟩
      · cases e
    · have e := Option.some.inj e
      subst e
      obtain ⟨a, vs, rfl, ha, r1⟩ := r.tup
      exact ⟨_, _, rfl, .inr ⟨vs, by rw [hK]; exact ha, rfl⟩, by rw [r1.length]; exact w.int rs⟩
    · have e := Option.some.inj e
      subst e
      obtain ⟨a, vs, rfl, ha, r1⟩ := r.lst
      exact ⟨_, _, rfl, .inl ⟨vs, .inl (.inl ha), rfl⟩, by rw [r1.length]; exact w.int rs⟩
    · have e := Option.some.inj e
      subst e
      obtain ⟨a, rfl, ha⟩ := r.scr
      exact ⟨_, _, rfl, .inl ⟨_, by rw [hK]; exact ha, rfl⟩, by rw [List.length_map]; exact w.int rs⟩
  case abs =>
    refine ⟨_, call_abs, fun {g H S Q ps z vs} e rs rr w => ?_⟩
    obtain ⟨x, rfl, e1⟩ := one_some e
    clear e
    have e := e1
    clear e1
    obtain ⟨v, rfl, r⟩ := rr.one
    cases x <;> simp only [abs1] at e <;> first | (cases e; done) | skip
    have e := Option.some.inj e
    subst e
    exact ⟨_, by rw [r.int], w.int rs⟩
  case int =>
    refine ⟨_, call_int1, fun {g H S Q ps z vs} e rs rr w => ?_⟩
    obtain ⟨x, rfl, e1⟩ := one_some e
    clear e
    have e := e1
    clear e1
    obtain ⟨v, rfl, r⟩ := rr.one
    cases x <;> simp only [int1] at e <;> first | (cases e; done) | skip
    · have e := Option.some.inj e
      subst e
      exact .inr ⟨_, by rw [r.bl], w.int rs⟩
    · have e := Option.some.inj e
      subst e
      exact .inl ⟨_, by rw [r.int], w.int rs⟩
  case str =>
    refine ⟨_, CallR.or call_str_int SkE.call_str_str, fun {g H S Q ps z vs} e rs rr w => ?_⟩
    obtain ⟨x, rfl, e1⟩ := one_some e
    clear e
    have e := e1
    clear e1
    obtain ⟨v, rfl, r⟩ := rr.one
    cases x <;> simp only [str1] at e <;> first | (cases e; done) | skip
    · split at e
      · rename_i hl
        have e := Option.some.inj e
        subst e
        exact .inl ⟨_, by rw [r.int], hl, w.str rs⟩
      · cases e
    · have e := Option.some.inj e
      subst e
      exact .inr ⟨_, by rw [r.str], w.str rs⟩
  case repr =>
    refine ⟨_, call_rep hg hu, fun {g H S Q ps z vs} e rs rr w => ?_⟩
    obtain ⟨x, rfl, e1⟩ := one_some e
    obtain ⟨v, rfl, r⟩ := rr.one
    rw [hK]
    exact rep_in e1 rs r w
  case all =>
    refine ⟨_, cr_all hc, fun {g H S Q ps z vs} e rs rr w => ?_⟩
    obtain ⟨x, rfl, e1⟩ := one_some e
    clear e
    have e := e1
    clear e1
    obtain ⟨v, rfl, r⟩ := rr.one
    cases x <;> simp only [all1] at e <;> first | (cases e; done) | skip
    obtain ⟨bs, h1, rfl⟩ := Option.map_eq_some_iff.mp e
    obtain ⟨a, vs, rfl, ha, r1⟩ := r.lst
    rw [bools_spec h1 r1] at ha
    exact ⟨_, bs, rfl, .inl (.inl ha), w.bl rs⟩
  case any =>
    refine ⟨_, cr_any hc, fun {g H S Q ps z vs} e rs rr w => ?_⟩
    obtain ⟨x, rfl, e1⟩ := one_some e
    clear e
    have e := e1
    clear e1
    obtain ⟨v, rfl, r⟩ := rr.one
    cases x <;> simp only [any1] at e <;> first | (cases e; done) | skip
    obtain ⟨bs, h1, rfl⟩ := Option.map_eq_some_iff.mp e
    obtain ⟨a, vs, rfl, ha, r1⟩ := r.lst
    rw [bools_spec h1 r1] at ha
    exact ⟨_, bs, rfl, .inl (.inl ha), w.bl rs⟩
  case tuple =>
    refine ⟨_, call_tuple_of, fun {g H S Q ps z vs} e rs rr w => ?_⟩
    obtain ⟨x, rfl, e1⟩ := one_some e
    clear e
    have e := e1
    clear e1
    obtain ⟨v, rfl, r⟩ := rr.one
    cases x <;> simp only [tuple1] at e <;> first | (cases e; done) | skip
    · have e := Option.some.inj e
      subst e
      have r0 := r.rp
      obtain ⟨a, vs, rfl, ha, r1⟩ := r.tup
      exact ⟨_, vs, rfl, .inr ⟨by rw [hK]; exact ha, w.at rs r0⟩⟩
    · have e := Option.some.inj e
      subst e
      obtain ⟨a, vs, rfl, ha, r1⟩ := r.lst
      exact ⟨_, vs, rfl, .inl ⟨.inl (.inl ha), w.tup rs r1⟩⟩
  case list =>
    refine ⟨_, call_list_of, fun {g H S Q ps z vs} e rs rr w => ?_⟩
    obtain ⟨x, rfl, e1⟩ := one_some e
    clear e
    have e := e1
    clear e1
    obtain ⟨v, rfl, r⟩ := rr.one
    cases x <;> simp only [list1] at e <;> first | (cases e; done) | skip
    · have e := Option.some.inj e
      subst e
      obtain ⟨a, vs, rfl, ha, r1⟩ := r.tup
      exact ⟨_, vs, rfl, .inr (by rw [hK]; exact ha), w.lst rs r1⟩
    · have e := Option.some.inj e
      subst e
      obtain ⟨a, vs, rfl, ha, r1⟩ := r.lst
      exact ⟨_, vs, rfl, .inl (.inl (.inl ha)), w.lst rs r1⟩
  case max =>
    refine ⟨_, call_max2 hc, fun {g H S Q ps z vs} e rs rr w => ?_⟩
    obtain ⟨x, y, rfl, e1⟩ := two_some e
    clear e
    have e := e1
    clear e1
    obtain ⟨v, v', rfl, r, r'⟩ := rr.two
    cases x <;> cases y <;> simp only [max2] at e <;> first | (cases e; done) | skip
    have e := Option.some.inj e
    subst e
    exact ⟨_, _, by rw [r.int, r'.int], w.int rs⟩
  case min =>
    refine ⟨_, call_min2 hc, fun {g H S Q ps z vs} e rs rr w => ?_⟩
    obtain ⟨x, y, rfl, e1⟩ := two_some e
    clear e
    have e := e1
    clear e1
    obtain ⟨v, v', rfl, r, r'⟩ := rr.two
    cases x <;> cases y <;> simp only [min2] at e <;> first | (cases e; done) | skip
    have e := Option.some.inj e
    subst e
    exact ⟨_, _, by rw [r.int, r'.int], w.int rs⟩
  case sorted =>
    refine ⟨_, cr_sortedI.or cr_sortedS, fun {g H S Q ps z vs} e rs rr w => ?_⟩
    obtain ⟨x, rfl, e1⟩ := one_some e
    obtain ⟨v, rfl, r⟩ := rr.one
    cases x <;> first | (cases e1; done) | skip
    rename_i xs
    obtain ⟨ad, ws, rfl, hs, r1⟩ := RR.lst r
    have e2 : (match intsP xs with
      | some ns => some (P.lst ((sortI ns).map .int))
      | none => match strsP xs with
        | some ys => if ys.length < 64 then some (.lst ((sortS ys).map .str)) else none
        | none => none) = some z := e1
    split at e2
    · rename_i ns hn
      cases e2
      have hv := intsP_spec hn r1
      subst hv
      refine .inl ⟨ad, ns, rfl, .inl (.inl hs), fun ns' p hp hw hf => ?_⟩
      rw [sortI_only hp hw]
      exact w.lst rs (rps_ints _) p hf
    · split at e2
      · rename_i ys hy
        split at e2
        · rename_i hl
          cases e2
          have hv := strsP_spec hy r1
          subst hv
          refine .inr ⟨ad, ys, rfl, .inl (.inl hs), hl, fun ns' p hp hw hf => ?_⟩
          rw [sortS_only hp hw]
          exact w.lst rs (rps_strs _) p hf
        · cases e2
      · cases e2
  case sum => exact ⟨fun _ _ _ => False, fun _ _ _ _ _ _ _ _ _ h => h.elim, fun {g H S Q ps z vs} e => by cases e⟩
/-! ### isinstance by a built-in type -/
def tyN : P → Option String
  | .dct _ _ => some "dict"
  | .non => some "NoneType" | .bl _ => some "bool" | .int _ => some "int" | .str _ => some "str" | .tup _ => some "tuple" | .lst _ => some "list"
  | _ => none
theorem tyX_spec {g : Gs} {H : Hp} {v : V} {p : P} {T : String} (e : tyN p = some T) (r : RR k g H v p) : TyX k.K H v (.type T) := by
  cases p <;> simp only [tyN] at e <;> first | (cases e; done) | skip
  · cases e; rw [r.non]; exact .base .non
  · cases e; rw [r.bl]; exact .base (.bl _)
  · cases e; rw [r.int]; exact .base (.int _)
  · cases e; rw [r.str]; exact .base (.str _)
  · cases e
    obtain ⟨a, vs, rfl, ha, r1⟩ := r.tup
    rcases ha with (ha | ⟨o, ha⟩) | ⟨o, its, n, h1, h2, _⟩
    · exact .base (.tup ha)
    · exact .fTuple ha
    · exact .kTuple h1 h2
  · cases e
    obtain ⟨a, vs, rfl, ha, r1⟩ := r.lst
    exact .base (.lst ha)
  · cases e
    obtain ⟨a, ob, vs, rfl, ha, hl, r1⟩ := RR.dct r
    exact .fDict ha
def nmT : Ty → String
  | .int => "int" | .bool => "bool" | .str => "str" | .tuple => "tuple" | .list => "list" | .dict => "dict"
theorem nmT_boot (T : Ty) : bootBuiltins (nmT T : Str) = some (.type (nmT T)) ∧ (nmT T : Str) ≠ "__name__" ∧ ((nmT T : Str) == ("__debug__" : Str)) = false := by
  cases T <;> exact ⟨by decide +kernel, by decide +kernel, by decide +kernel⟩
theorem isi_kit {T : Ty} {p : P} {b : Bool} (h : isi T p = some b) : ∃ t, tyN p = some t ∧ kitB t (nmT T) = some b := by
  cases p <;> cases T <;> simp only [isi] at h <;> first | (cases h; done) | skip
  all_goals cases h
  all_goals exact ⟨_, rfl, by decide +kernel⟩
end
end Mn
/-! Mn7: expressions of the text against the evaluator's. -/
namespace Mn
open L2 PyProof.Rows PySem.Spec PySem
section
variable {X : Cx} {k : Ka} {W : WX} {cal : Nat → List D → Sto → R D} {fr : Nat} {s : Ev}
theorem rdE.imp {f : Loc → Sto → R D} {σ : Ls} {H : Hp} {Q Q' : VK} (h : rdE k W f σ H Q) (i : ∀ v H', Q v H' → Q' v H') : rdE k W f σ H Q' := by
  obtain ⟨g, L, S, rl, rs, b⟩ := h
  exact ⟨g, L, S, rl, rs, b.imp fun d S' g' H' _ _ q v r => i v H' (q v r)⟩
theorem rdT.imp {f : Loc → Sto → R Bool} {σ : Ls} {H : Hp} {Q Q' : Bool → Hp → Prop} (h : rdT k W f σ H Q) (i : ∀ v H', Q v H' → Q' v H') : rdT k W f σ H Q' := by
  obtain ⟨g, L, S, rl, rs, b⟩ := h
  exact ⟨g, L, S, rl, rs, b.imp fun d S' g' H' _ _ q => i d H' q⟩
theorem rdA.imp {f : Loc → Sto → R (List D)} {σ : Ls} {H : Hp} {Q Q' : List V → Hp → Prop} (h : rdA k W f σ H Q) (i : ∀ v H', Q v H' → Q' v H') : rdA k W f σ H Q' := by
  obtain ⟨g, L, S, rl, rs, b⟩ := h
  exact ⟨g, L, S, rl, rs, b.imp fun d S' g' H' _ _ q v r => i v H' (q v r)⟩
theorem Bk.okE {σ : Ls} {g : Gs} {H : Hp} {S : Sto} {d : D} {Q : VK} (b : Bk k W σ g H (R.ok d S) fun d _ g' H' => ∀ v, RD k g' H' v d → Q v H') : Want k g H S d Q := b
theorem lift_want {σ : Ls} {g : Gs} {H : Hp} {S : Sto} {o : Option P} {Q : VK} (b : Bk k W σ g H (liftP S o) fun d _ g' H' => ∀ v, RD k g' H' v d → Q v H') : ∃ z, o = some z ∧ Want k g H S (.p z) Q := by
  cases o with
  | none => exact b.elim
  | some z => exact ⟨z, rfl, b⟩
theorem evB_want {σ : Ls} {g : Gs} {H : Hp} {S : Sto} {o : Option Bool} {Q : VK} (rs : RS k g H S) (b : Bk k W σ g H (evB o S) fun d _ g' H' => ∀ v, RD k g' H' v d → Q v H') : ∃ z, o = some z ∧ Q (.bl z) H := by
  cases o with
  | none => exact b.elim
  | some z => exact ⟨z, rfl, Want.bl b rs⟩
theorem tru_want {σ : Ls} {g : Gs} {H : Hp} {S : Sto} {x : D} {v : V} {Q : Bool → Sto → Gs → Hp → Prop} (rs : RS k g H S) (rx : RD k g H v x) (b : Bk k W σ g H (truR x S) Q) : ∃ c, truR x S = .ok c S ∧ TruV k.K v H c ∧ Q c S g H := by
  unfold truR at b ⊢
  cases e : der S x with
  | none => rw [e] at b; exact b.elim
  | some p =>
    rw [e] at b
    have e1 : (some p).bind tru = tru p := rfl
    rw [e1] at b ⊢
    cases e2 : tru p with
    | none => rw [e2] at b; exact b.elim
    | some c =>
      rw [e2] at b
      exact ⟨c, rfl, tru_spec e2 (rx.der rs e), b.here rs⟩

theorem se_v {i : Nat} {x : Str} {pos : Pos} (hN : X.N[i]? = some x) (hv : Vis X.env.scope x) (hd : (x == ("__debug__" : Str)) = false) (hcd : (x == ("__classdict__" : Str)) = false) :
    PE X (.Name x pos) (rdE k W (evE cal fr s (.v i))) := by
  refine PE.imp (pe_var hN hv hd hcd) fun σ H Q h => ?_
  obtain ⟨g, L, S, rl, rs, b⟩ := h
  simp only [evE] at b
  split at b
  · rename_i d e
    obtain ⟨v, e1, r⟩ := rl.2 i d e
    exact ⟨v, e1, b.here rs v r⟩
  · exact b.elim
theorem se_k {x : P} {e : Expr} {v : V} (h : PE X e (tC v)) (r : ∀ g H, RP k.toKg g H v x) : PE X e (rdE k W (evE cal fr s (.k x))) := by
  refine PE.imp h fun σ H Q h => ?_
  obtain ⟨g, L, S, rl, rs, b⟩ := h
  exact b.here rs v (r g H)
theorem se_bin {op : Operator} {o : Bo} {a b : Expr} {a' b' : E} {pos : Pos} (hK : X.K = k.K) (ho : opB op = some o) (ha : PE X a (rdE k W (s.e a'))) (hb : PE X b (rdE k W (s.e b'))) :
    PE X (.BinOp a op b pos) (rdE k W (evE cal fr s (.bin o a' b'))) := by
  obtain ⟨r, h1, h2⟩ := bin_rule (X := X) (k := k) ho hK
  refine PE.imp (pe_op h1 ha hb) fun σ H Q h => ?_
  refine rdE.imp (rd_two (F := binR o) h) fun vx H1 q => rdE.imp q fun vy H2 q => ?_
  obtain ⟨g, x, y, S, rs, rx, ry, bk⟩ := q
  unfold binR at bk
  split at bk
  · rename_i p q e1 e2
    obtain ⟨z, e3, w⟩ := lift_want bk
    exact h2 e3 rs (rx.der rs e1) (ry.der rs e2) w
  · exact bk.elim
theorem se_cat {a b : Expr} {a' b' : E} {pos : Pos} (ha : PE X a (rdE k W (s.e a'))) (hb : PE X b (rdE k W (s.e b'))) : PE X (.BinOp a .Add b pos) (rdE k W (evE cal fr s (.cat a' b'))) := by
  refine PE.imp (pe_op op_cat ha hb) fun σ H Q h => ?_
  refine rdE.imp (rd_two (F := catR) h) fun vx H1 q => rdE.imp q fun vy H2 q => ?_
  obtain ⟨g, x, y, S, rs, rx, ry, bk⟩ := q
  unfold catR at bk
  split at bk
  · rename_i ps qs e1 e2
    split at bk
    · rename_i hl
      obtain ⟨p, vs, rfl, hp, r1⟩ := RR.lst (rx.der rs e1)
      obtain ⟨q, ws, rfl, hq, r2⟩ := RR.lst (ry.der rs e2)
      refine ⟨p, q, vs, ws, rfl, rfl, hp, hq, by rw [r1.length, r2.length, ← line_eq]; exact Nat.le_of_ble_eq_true hl, ?_⟩
      exact (Bk.okE bk).cell rs (r1.append r2).toD (by
        rw [List.all_map]
        exact List.all_eq_true.mpr fun _ _ => rfl)
    · exact bk.elim
  · exact bk.elim
theorem se_neg {a : Expr} {a' : E} {pos : Pos} (ha : PE X a (rdE k W (s.e a'))) : PE X (.UnaryOp .USub a pos) (rdE k W (evE cal fr s (.neg a'))) := by
  refine PE.imp (pe_un un_neg ha) fun σ H Q h => ?_
  refine rdE.imp (rd_one (F := negR) h) fun vx H1 q => ?_
  obtain ⟨g, x, S, rs, rx, bk⟩ := q
  unfold negR at bk
  split at bk
  · rename_i i
    cases (show RP k g H1 vx (.int i) from rx)
    exact ⟨i, rfl, (Bk.okE bk).int rs⟩
  · exact bk.elim
theorem cmp_in {op : CmpOp} {r : R2} (h2 : ∀ {g H S Q p q b vx vy}, cmpo (opC op) p q = some b → RS k g H S → RR k g H vx p → RR k g H vy q → Q (.bl b) H → r vx vy H Q) {a' b' : E} {σ : Ls} {H : Hp} {Q : VK}
    (h : rdE k W (evE cal fr s (.cmp (opC op) a' b')) σ H Q) : tOp r (rdE k W (s.e a')) (rdE k W (s.e b')) σ H Q := by
  refine rdE.imp (rd_two (F := cmpR (opC op)) h) fun vx H1 q => rdE.imp q fun vy H2 q => ?_
  obtain ⟨g, x, y, S, rs, rx, ry, bk⟩ := q
  unfold cmpR at bk
  split at bk
  · rename_i p q e1 e2
    obtain ⟨z, e3, w⟩ := evB_want rs bk
    exact h2 (S := S) e3 rs (rx.der rs e1) (ry.der rs e2) w
  · exact bk.elim
theorem se_cmp {op : CmpOp} {a b : Expr} {a' b' : E} {pos : Pos} (hK : X.K = k.K) (hu : X.A.units + 65 < cLine) (hm : behindInMarks op b = false) (ha : PE X a (rdE k W (s.e a'))) (hb : PE X b (rdE k W (s.e b'))) :
    PE X (.Compare a [op] [b] pos) (rdE k W (evE cal fr s (.cmp (opC op) a' b'))) := by
  obtain ⟨r, h1, h2⟩ := cmp_rule (X := X) (k := k) op hK hu
  exact PE.imp (pe_cmpR h1 ha hb hm) fun σ H Q h => cmp_in h2 h
/-- from a test's run to its value's -/
theorem rd_truth {f : Loc → Sto → R D} {σ : Ls} {H : Hp} {Q : Bool → Hp → Prop} (h : rdT k W (fun L S => (f L S).bind fun x S1 => truR x S1) σ H Q) : rdE k W f σ H fun v H1 => ∃ c, TruV k.K v H1 c ∧ Q c H1 := by
  obtain ⟨g, L, S, rl, rs, b⟩ := h
  refine ⟨g, L, S, rl, rs, b.bind.imp fun x S1 g1 H1 _ rs1 bk v r => ?_⟩
  obtain ⟨c, _, h2, h3⟩ := tru_want rs1 r bk
  exact ⟨c, h2, h3⟩
theorem st_plain {e : Expr} {e' : E} (hK : X.K = k.K) (hp : plainTest e = true) (h : PE X e (rdE k W (evE cal fr s e'))) (ht : evT cal fr s e' = fun L S => (evE cal fr s e' L S).bind fun x S1 => truR x S1) :
    PT X e (rdT k W (evT cal fr s e')) := by
  refine PT.imp (pt_truth h (fun whole => isTrue_of hp X.env whole)) fun σ H Q q => ?_
  rw [ht] at q
  exact rdE.imp (rd_truth q) fun v H1 ⟨c, h1, h2⟩ => ⟨c, by rw [hK]; exact h1, h2⟩
/-- a run whose value is a truth value -/
def BlV (f : Loc → Sto → R D) : Prop := ∀ L S d S', f L S = .ok d S' → ∃ b, d = .p (.bl b)
theorem rd_bl {f : Loc → Sto → R D} (hf : BlV f) {σ : Ls} {H : Hp} {Q : Bool → Hp → Prop} (h : rdT k W (fun L S => (f L S).bind fun x S1 => truR x S1) σ H Q) : rdE k W f σ H fun v H1 => ∃ c, v = .bl c ∧ Q c H1 := by
  obtain ⟨g, L, S, rl, rs, b⟩ := h
  refine ⟨g, L, S, rl, rs, ?_⟩
  dsimp only at b
  cases e1 : f L S with
  | bad => rw [e1] at b; exact b.elim
  | ex x S1 => rw [e1] at b; exact b
  | ok x S1 =>
    rw [e1] at b
    obtain ⟨c, rfl⟩ := hf _ _ _ _ e1
    intro g' H' x' rs' v r
    cases (show RP k g' H' v (.bl c) from r)
    exact ⟨c, rfl, b g' H' x' rs'⟩
theorem cmpR_bl {o : Co} {x y d : D} {S S' : Sto} (h : cmpR o x y S = .ok d S') : ∃ b, d = .p (.bl b) := by
  unfold cmpR at h
  split at h
  · rename_i p q _ _
    cases e3 : cmpo o p q with
    | none => rw [e3] at h; cases h
    | some c => rw [e3] at h; cases h; exact ⟨c, rfl⟩
  · cases h
theorem R.bind_ok {α β : Type} {r : R α} {f : α → Sto → R β} {b : β} {S' : Sto} (h : r.bind f = .ok b S') : ∃ a S, r = .ok a S ∧ f a S = .ok b S' := by
  cases r with
  | ok a S => exact ⟨a, S, rfl, h⟩
  | ex _ _ => cases h
  | bad => cases h
theorem cmp_blv {o : Co} {a' b' : E} : BlV (evE cal fr s (.cmp o a' b')) := fun L S d S' h => by
  obtain ⟨x, S1, _, h⟩ := R.bind_ok h
  obtain ⟨y, S2, _, h⟩ := R.bind_ok h
  exact cmpR_bl h
theorem chain_blv {o o' : Co} {a' b' c' : E} : BlV (evE cal fr s (.chain o o' a' b' c')) := fun L S d S' h => by
  obtain ⟨x, S1, _, h⟩ := R.bind_ok h
  obtain ⟨y, S2, _, h⟩ := R.bind_ok h
  obtain ⟨z, S3, _, h⟩ := R.bind_ok h
  split at h
  · obtain ⟨w, S4, _, h⟩ := R.bind_ok h
    exact cmpR_bl h
  · cases h; exact ⟨_, rfl⟩
  · cases h
theorem st_cmp {op : CmpOp} {a b : Expr} {a' b' : E} {pos : Pos} (hK : X.K = k.K) (hu : X.A.units + 65 < cLine) (hm : behindInMarks op b = false) (ha : PE X a (rdE k W (s.e a'))) (hb : PE X b (rdE k W (s.e b'))) :
    PT X (.Compare a [op] [b] pos) (rdT k W (evT cal fr s (.cmp (opC op) a' b'))) := by
  obtain ⟨r, h1, h2⟩ := cmp_rule (X := X) (k := k) op hK hu
  exact PT.imp (pt_cmpR h1 ha hb hm) fun σ H Q h => cmp_in h2 (rd_bl cmp_blv h)
/-- two comparisons in a chain -/
theorem chain_in {op op' : CmpOp} {r r' : R2} (h2 : ∀ {g H S Q p q b vx vy}, cmpo (opC op) p q = some b → RS k g H S → RR k g H vx p → RR k g H vy q → Q (.bl b) H → r vx vy H Q)
    (h2' : ∀ {g H S Q p q b vx vy}, cmpo (opC op') p q = some b → RS k g H S → RR k g H vx p → RR k g H vy q → Q (.bl b) H → r' vx vy H Q) {a' b' c' : E} {σ : Ls} {H : Hp} {Q : VK}
    (h : rdE k W (evE cal fr s (.chain (opC op) (opC op') a' b' c')) σ H Q) : tChain r r' (rdE k W (s.e a')) (rdE k W (s.e b')) (rdE k W (s.e c')) σ H Q := by
  obtain ⟨g, L, S, rl, rs, b⟩ := h
  refine ⟨g, L, S, rl, rs, b.bind.imp fun x S1 g1 H1 e1 rs1 b1 vx rx => ⟨g1, L, S1, rl.mono e1, rs1, b1.bind.imp fun y S2 g2 H2 e2 rs2 b2 vy ry => ?_⟩⟩
  unfold cmpR at b2
  split at b2
  · rename_i p q e3 e4
    cases e5 : cmpo (opC op) p q with
    | none => rw [e5] at b2; exact b2.elim
    | some c =>
      rw [e5] at b2
      refine h2 (S := S2) e5 rs2 ((rx.mono e2).der rs2 e3) (ry.der rs2 e4) ⟨c, rfl, ?_⟩
      cases c with
      | false =>
        rw [if_neg Bool.false_ne_true]
        exact Want.bl (show Want k g2 H2 S2 (.p (.bl false)) Q from b2) rs2
      | true =>
        rw [if_pos rfl]
        have b3 : Bk k W σ g2 H2 ((s.e c' L S2).bind fun w S4 => cmpR (opC op') y w S4) fun d _ g' H' => ∀ v, RD k g' H' v d → Q v H' := b2
        refine ⟨g2, L, S2, rl.mono (e1.trans e2), rs2, b3.bind.imp fun z S4 g4 H4 e6 rs4 b4 vz rz => ?_⟩
        unfold cmpR at b4
        split at b4
        · rename_i p' q' e7 e8
          obtain ⟨z, e9, w⟩ := evB_want rs4 b4
          exact h2' (S := S4) e9 rs4 ((ry.mono e6).der rs4 e7) (rz.der rs4 e8) w
        · exact b4.elim
  · exact b2.elim
theorem lastM {op op' : CmpOp} {b c : Expr} (h : behindInMarks op' c = false) : lastMarks [op, op'] [b, c] = false := h
theorem se_chain {op op' : CmpOp} {a b c : Expr} {a' b' c' : E} {pos : Pos} (hK : X.K = k.K) (hu : X.A.units + 65 < cLine) (hm' : behindInMarks op' c = false)
    (ha : PE X a (rdE k W (s.e a'))) (hb : PE X b (rdE k W (s.e b'))) (hc : PE X c (rdE k W (s.e c'))) :
    PE X (.Compare a [op, op'] [b, c] pos) (rdE k W (evE cal fr s (.chain (opC op) (opC op') a' b' c'))) := by
  obtain ⟨r, h1, h2⟩ := cmp_rule (X := X) (k := k) op hK hu
  obtain ⟨r', h1', h2'⟩ := cmp_rule (X := X) (k := k) op' hK hu
  exact PE.imp (pe_chain h1 h1' ha hb hc (lastM hm')) fun σ H Q h => chain_in h2 h2' h
theorem st_chain {op op' : CmpOp} {a b c : Expr} {a' b' c' : E} {pos : Pos} (hK : X.K = k.K) (hu : X.A.units + 65 < cLine) (hm' : behindInMarks op' c = false)
    (ha : PE X a (rdE k W (s.e a'))) (hb : PE X b (rdE k W (s.e b'))) (hc : PE X c (rdE k W (s.e c'))) :
    PT X (.Compare a [op, op'] [b, c] pos) (rdT k W (evT cal fr s (.chain (opC op) (opC op') a' b' c'))) := by
  obtain ⟨r, h1, h2⟩ := cmp_rule (X := X) (k := k) op hK hu
  obtain ⟨r', h1', h2'⟩ := cmp_rule (X := X) (k := k) op' hK hu
  exact PT.imp (pt_chain h1 h1' ha hb hc (lastM hm')) fun σ H Q h => chain_in h2 h2' (rd_bl chain_blv h)

/-! ### not, and, or, if .. else -/
theorem se_not {a : Expr} {a' : E} {pos : Pos} (hK : X.K = k.K) (ha : PE X a (rdE k W (s.e a'))) : PE X (.UnaryOp .Not a pos) (rdE k W (evE cal fr s (.not a'))) := by
  refine PE.imp (pe_notT ha) fun σ H Q h => ?_
  refine rdE.imp (rd_one (F := fun x S1 => (truR x S1).bind fun b S2 => .ok (.p (.bl (!b))) S2) h) fun vx H1 q => ?_
  obtain ⟨g, x, S, rs, rx, bk⟩ := q
  obtain ⟨c, h1, h2, h3⟩ := tru_want rs rx bk.bind
  exact ⟨c, by rw [hK]; exact h2, Want.bl (show Want k g H1 S (.p (.bl (!c))) Q from h3) rs⟩
theorem rd_andor {a' b' : E} {o : Bool} {σ : Ls} {H : Hp} {Q : VK} (hK : X.K = k.K)
    (h : rdE k W (fun L S => (s.e a' L S).bind fun x S1 => (truR x S1).bind fun c S2 => if c = o then s.e b' L S2 else .ok x S2) σ H Q) :
    rdE k W (s.e a') σ H fun x H1 => ∃ c, TruV X.K x H1 c ∧ (c = o → rdE k W (s.e b') σ H1 Q) ∧ (c ≠ o → Q x H1) := by
  obtain ⟨g, L, S, rl, rs, b⟩ := h
  refine ⟨g, L, S, rl, rs, b.bind.imp fun x S1 g1 H1 e1 rs1 bk v r => ?_⟩
  obtain ⟨c, _, h2, h3⟩ := tru_want rs1 r bk.bind
  refine ⟨c, by rw [hK]; exact h2, fun e => ?_, fun e => ?_⟩
  · rw [if_pos e] at h3
    exact ⟨g1, L, S1, rl.mono e1, rs1, h3⟩
  · rw [if_neg e] at h3
    exact (show Want k g1 H1 S1 x Q from h3).at rs1 r
theorem se_and {a b : Expr} {rest : List Expr} {a' b' : E} {pos : Pos} (hK : X.K = k.K) (ha : PE X a (rdE k W (s.e a'))) (hb : PE X (.BoolOp .And (b :: rest) pos) (rdE k W (s.e b'))) :
    PE X (.BoolOp .And (a :: b :: rest) pos) (rdE k W (evE cal fr s (.and a' b'))) := by
  refine PE.imp (pe_andT ha hb) fun σ H Q h => ?_
  refine rdE.imp (rd_andor (X := X) (o := true) hK h) fun x H1 ⟨c, h1, h2, h3⟩ => ⟨c, h1, ?_⟩
  cases c with
  | true => exact iteT (h2 rfl)
  | false => exact iteF (h3 Bool.false_ne_true)
theorem se_or {a b : Expr} {rest : List Expr} {a' b' : E} {pos : Pos} (hK : X.K = k.K) (ha : PE X a (rdE k W (s.e a'))) (hb : PE X (.BoolOp .Or (b :: rest) pos) (rdE k W (s.e b'))) :
    PE X (.BoolOp .Or (a :: b :: rest) pos) (rdE k W (evE cal fr s (.or a' b'))) := by
  refine PE.imp (pe_orT ha hb) fun σ H Q h => ?_
  have h' : rdE k W (fun L S => (s.e a' L S).bind fun x S1 => (truR x S1).bind fun c S2 => if c = false then s.e b' L S2 else .ok x S2) σ H Q := by
    obtain ⟨g, L, S, rl, rs, b⟩ := h
    refine ⟨g, L, S, rl, rs, ?_⟩
    have e : (fun x S1 => (truR x S1).bind fun c S2 => if c = true then (R.ok x S2 : R D) else s.e b' L S2) = fun x S1 => (truR x S1).bind fun c S2 => if c = false then s.e b' L S2 else R.ok x S2 := by
      funext x S1
      congr 1
      funext c S2
      cases c <;> rfl
    show Bk k W σ g H ((s.e a' L S).bind fun x S1 => (truR x S1).bind fun c S2 => if c = false then s.e b' L S2 else R.ok x S2) _
    rw [← e]
    exact b
  refine rdE.imp (rd_andor (X := X) (o := false) hK h') fun x H1 ⟨c, h1, h2, h3⟩ => ⟨c, h1, ?_⟩
  cases c with
  | true => exact iteT (h3 (fun z => nomatch z))
  | false => exact iteF (h2 rfl)
theorem st_not {a : Expr} {a' : E} {pos : Pos} (ha : PT X a (rdT k W (s.t a'))) : PT X (.UnaryOp .Not a pos) (rdT k W (evT cal fr s (.not a'))) := by
  refine PT.imp (pt_not ha) fun σ H Q h => ?_
  obtain ⟨g, L, S, rl, rs, b⟩ := h
  exact ⟨g, L, S, rl, rs, b.bind.imp fun c S1 g1 H1 _ rs1 bk => bk.here rs1⟩
theorem PW.imp {e : Expr} {t t' : TT} (h : PW X e t') (i : ∀ σ H Q, t σ H Q → t' σ H Q) : PW X e t := ⟨fun wh pins s σ H Q I q => h.run wh pins s σ H Q I (i σ H Q q)⟩
theorem st_and {a b : Expr} {rest : List Expr} {a' b' : E} {pos : Pos} (ha : PT X a (rdT k W (s.t a'))) (hb : PW X (.BoolOp .And (b :: rest) pos) (rdT k W (s.t b'))) :
    PW X (.BoolOp .And (a :: b :: rest) pos) (rdT k W (evT cal fr s (.and a' b'))) := by
  refine PW.imp (pw_and ha hb) fun σ H Q h => ?_
  obtain ⟨g, L, S, rl, rs, b⟩ := h
  refine ⟨g, L, S, rl, rs, b.bind.imp fun c S1 g1 H1 e1 rs1 bk => ?_⟩
  cases c with
  | true => exact iteT ⟨g1, L, S1, rl.mono e1, rs1, bk⟩
  | false => exact iteF (bk.here rs1)
theorem st_or {a b : Expr} {rest : List Expr} {a' b' : E} {pos : Pos} (ha : PT X a (rdT k W (s.t a'))) (hb : PW X (.BoolOp .Or (b :: rest) pos) (rdT k W (s.t b'))) :
    PW X (.BoolOp .Or (a :: b :: rest) pos) (rdT k W (evT cal fr s (.or a' b'))) := by
  refine PW.imp (pw_or ha hb) fun σ H Q h => ?_
  obtain ⟨g, L, S, rl, rs, b⟩ := h
  refine ⟨g, L, S, rl, rs, b.bind.imp fun c S1 g1 H1 e1 rs1 bk => ?_⟩
  cases c with
  | true => exact iteT (bk.here rs1)
  | false => exact iteF ⟨g1, L, S1, rl.mono e1, rs1, bk⟩
theorem se_ite {t a b : Expr} {t' a' b' : E} {pos : Pos} (ht : PT X t (rdT k W (s.t t'))) (ha : PE X a (rdE k W (s.e a'))) (hb : PE X b (rdE k W (s.e b'))) :
    PE X (.IfExp t a b pos) (rdE k W (evE cal fr s (.ite t' a' b'))) := by
  refine PE.imp (pe_ifExp ht ha hb) fun σ H Q h => ?_
  obtain ⟨g, L, S, rl, rs, b⟩ := h
  refine ⟨g, L, S, rl, rs, b.bind.imp fun c S1 g1 H1 e1 rs1 bk => ?_⟩
  cases c with
  | true => exact iteT ⟨g1, L, S1, rl.mono e1, rs1, bk⟩
  | false => exact iteF ⟨g1, L, S1, rl.mono e1, rs1, bk⟩

/-! ### arguments, displays, calls of what is built in -/
theorem sa_nil : PA X [] (rdA k W (evs s [])) := by
  refine PA.imp pa_nil fun σ H Q h => ?_
  obtain ⟨g, L, S, rl, rs, b⟩ := h
  exact b.here rs [] .nil
theorem sa_cons {e : Expr} {es : List Expr} {e' : E} {es' : List E} (hst : noStar e = true) (he : PE X e (rdE k W (s.e e'))) (hes : PA X es (rdA k W (evs s es'))) : PA X (e :: es) (rdA k W (evs s (e' :: es'))) := by
  refine PA.imp (pa_cons he hes (star_of hst es X.env)) fun σ H Q h => ?_
  obtain ⟨g, L, S, rl, rs, b⟩ := h
  refine ⟨g, L, S, rl, rs, b.bind.imp fun x S1 g1 H1 e1 rs1 b1 vx rx => ⟨g1, L, S1, rl.mono e1, rs1, b1.bind.imp fun ds S2 g2 H2 e2 rs2 b2 vs rvs => ?_⟩⟩
  exact b2.here rs2 _ (.cons (rx.mono e2) rvs)
/-- behind the arguments -/
def FinA (k : Ka) (W : WX) (σ : Ls) (F : List D → Sto → R D) (Q : VK) : List V → Hp → Prop := fun vs H => ∃ g ds S, RS k g H S ∧ RDs k g H vs ds ∧ Bk k W σ g H (F ds S) fun d _ g' H' => ∀ v, RD k g' H' v d → Q v H'
theorem rd_args {fa : Loc → Sto → R (List D)} {F : List D → Sto → R D} {σ : Ls} {H : Hp} {Q : VK} (h : rdE k W (fun L S => (fa L S).bind fun ds S1 => F ds S1) σ H Q) : rdA k W fa σ H fun vs H1 => FinA k W σ F Q vs H1 := by
  obtain ⟨g, L, S, rl, rs, b⟩ := h
  exact ⟨g, L, S, rl, rs, b.bind.imp fun x S1 g1 H1 e1 rs1 b1 vx rx => ⟨g1, x, S1, rs1, rx, b1⟩⟩
theorem RPs.toDs {g : Gs} {H : Hp} {ds : List D} {ps : List P} {vs : List V} (e : allP ds = some ps) (r : RDs k g H vs ds) : RPs k g H vs ps := r.ofP e
theorem se_tup {es : List Expr} {es' : List E} {x1 : Nat} {pos : Pos} (he : PA X es (rdA k W (evs s es'))) : PE X (.Tuple es x1 pos) (rdE k W (evE cal fr s (.tup es'))) := by
  refine PE.imp (pe_tup he) fun σ H Q h => ?_
  refine rdA.imp (rd_args (F := tupR) h) fun vs H1 q => ?_
  obtain ⟨g, ds, S, rs, rv, bk⟩ := q
  unfold tupR at bk
  split at bk
  · rename_i ps e
    split at bk
    · rename_i hl
      have r := rv.ofP e
      exact ⟨by rw [r.length, ← line_eq]; exact hl, (Bk.okE bk).tup rs r⟩
    · exact bk.elim
  · exact bk.elim
theorem se_lst {own : Bool} {es : List Expr} {es' : List E} {pos : Pos} (he : PA X es (rdA k W (evs s es'))) : PE X (.List es pos) (rdE k W (evE cal fr s (.lst own es'))) := by
  refine PE.imp (pe_lst he) fun σ H Q h => ?_
  refine rdA.imp (rd_args (F := lstR own) h) fun vs H1 q => ?_
  obtain ⟨g, ds, S, rs, rv, bk⟩ := q
  unfold lstR at bk
  split at bk
  · split at bk
    · rename_i hl
      rw [Bool.and_eq_true] at hl
      exact ⟨by rw [rv.length, ← line_eq]; exact Nat.le_of_ble_eq_true hl.1, (Bk.okE bk).cell rs rv hl.2⟩
    · exact bk.elim
  · split at bk
    · rename_i ps e
      split at bk
      · rename_i hl
        have r := rv.ofP e
        exact ⟨by rw [r.length, ← line_eq]; exact hl, (Bk.okE bk).lst rs r⟩
      · exact bk.elim
    · exact bk.elim
theorem noStars {es : List Expr} (h : es.all noStar = true) (env : Env) (pos : Pos) : (backTo pos (starEach es env)).any (·.1) = false := by
  induction es with
  | nil => rfl
  | cons e es ih =>
    rw [List.all_cons, Bool.and_eq_true] at h
    rw [star_of h.1]
    have := ih h.2
    unfold backTo at this ⊢
    rw [List.map_cons, List.any_cons, this]
    rfl
theorem se_bi {b : Bi} {e : Expr} {es : List Expr} {es' : List E} {p pos : Pos} (hK : X.K = k.K) (hc : X.calm = true) (hg : X.A.guards = some []) (hu : X.A.units + 66 < cLine) (hgl : Gl X (nmB b)) (hm : X.mg (nmB b) = none)
    (hst : (e :: es).all noStar = true) (he : PA X (e :: es) (rdA k W (evs s es'))) : PE X (.Call (.Name (nmB b) p) (e :: es) [] pos) (rdE k W (evE cal fr s (.bi b es'))) := by
  obtain ⟨r, h1, h2⟩ := bi_rule (X := X) (k := k) b hK hc hg hu
  obtain ⟨b1, b2, b3⟩ := nmB_boot b
  have hst' := hst
  rw [List.all_cons, Bool.and_eq_true] at hst'
  have core : ∀ σ H Q, rdE k W (evE cal fr s (.bi b es')) σ H Q → tCB r (rdA k W (evs s es')) σ H Q := fun σ H Q h => by
    refine rdA.imp (rd_args (F := biR b) h) fun vs H1 q => ?_
    obtain ⟨g, ds, S, rs, rv, bk⟩ := q
    unfold biR at bk
    split at bk
    · rename_i ps e
      obtain ⟨z, e3, w⟩ := lift_want bk
      exact h2 e3 rs (ders_rrs rs e rv) w
    · exact bk.elim
  have go : ∀ {v : Value}, fnB b = v → bootBuiltins (nmB b) = some v := fun e => e ▸ b1
  cases hv : fnB b with
  | builtin id =>
    rw [hv] at h1
    exact PE.imp (pe_callB h1 hgl hm (go hv) he b2 b3 (star_of hst'.1 es X.env) (noStars hst'.2 X.env pos)) core
  | type T =>
    rw [hv] at h1
    exact PE.imp (pe_callTy h1 hgl hm (go hv) he b2 b3 (star_of hst'.1 es X.env) (noStars hst'.2 X.env pos)) core
  | _ => cases b <;> cases hv
theorem se_isi {T : Ty} {e : Expr} {e' : E} {p p2 pos : Pos} (hK : X.K = k.K) (hgl : Gl X "isinstance") (hm : X.mg "isinstance" = none) (hgT : Gl X (nmT T : Str)) (hmT : X.mg (nmT T : Str) = none) (hst : noStar e = true)
    (he : PE X e (rdE k W (s.e e'))) : PE X (.Call (.Name "isinstance" p) [e, .Name (nmT T : Str) p2] [] pos) (rdE k W (evE cal fr s (.isi T e'))) := by
  obtain ⟨b1, b2, b3⟩ := nmT_boot T
  have ht : PE X (.Name (nmT T : Str) p2) (tC (.ty (nmT T))) := pe_bltn hgT hmT b1 rfl b2 b3
  have ha := pa_cons he (pa_cons ht pa_nil rfl) (star_of hst [.Name (nmT T : Str) p2] X.env)
  refine PE.imp (pe_callB call_isi hgl hm (by decide +kernel) ha (by decide +kernel) (by decide +kernel) (star_of hst _ X.env) rfl) fun σ H Q h => ?_
  refine rdE.imp (rd_one (F := isiR T) h) fun vx H1 q => ?_
  obtain ⟨g, x, S, rs, rx, bk⟩ := q
  unfold isiR at bk
  split at bk
  · rename_i y e1
    obtain ⟨z, e3, w⟩ := evB_want rs bk
    obtain ⟨t, q1, q2⟩ := isi_kit e3
    exact ⟨vx, _, _, _, z, rfl, .ty _, by rw [hK]; exact tyX_spec q1 (rx.der rs e1), kit_ty q2, w⟩
  · exact bk.elim
theorem se_ix {a b : Expr} {a' b' : E} {pos : Pos} (hK : X.K = k.K) (hs : noSlice b = true) (ha : PE X a (rdE k W (s.e a'))) (hb : PE X b (rdE k W (s.e b'))) : PE X (.Subscript a b pos) (rdE k W (evE cal fr s (.ix a' b'))) := by
  refine PE.imp (pe_ix item_ix ha hb (plainIx_of hs)) fun σ H Q h => ?_
  refine rdE.imp (rd_two (F := ixR) h) fun vx H1 q => rdE.imp q fun vy H2 q => ?_
  obtain ⟨g, x, y, S, rs, rx, ry, bk⟩ := q
  unfold ixR at bk
  split at bk
  · obtain ⟨z, e3, w⟩ := lift_want bk
    exact item_spec hK e3 rs rx ry w
  · split at bk
    · rename_i ds e1
      split at bk
      · rename_i d e2
        obtain ⟨j, e3, e4⟩ := Option.bind_eq_some_iff.mp e2
        exact item_cell rs rx ry e1 e3 e4 (Bk.okE bk)
      · exact bk.elim
    · exact bk.elim
  · exact bk.elim
end
end Mn
/-! Mx6: xs[::-1], xs a list or a tuple. -/
namespace Mn
open L2 PyProof.Rows PySem.Spec PySem
section
variable {prog : Program} {w : World} {A : Around} {E : Value → Shared → Prop} {s : Shared}
theorem adjust_back (n : Nat) : Builtin.Slice.sliceAdjust none none (-1) (n : Int) = ((n : Int) - 1, -1) := by
  unfold Builtin.Slice.sliceAdjust
  rfl
theorem places_back (n : Nat) : Builtin.Slice.slicePlaces ((n : Int) - 1) (-1) (-1) = n := by
  unfold Builtin.Slice.slicePlaces
  rw [if_neg (by decide)]
  by_cases h : (n : Int) - 1 > -1
  · rw [if_pos h]
    show (((n : Int) - 1 - -1 - 1) / 1 + 1).toNat = n
    rw [Int.ediv_one]
    omega
  · rw [if_neg h]
    show (0 : Int).toNat = n
    omega
theorem applied_back {sl : Addr} {tk : Tok} {n : Nat} {Q : Int × Int × Nat → Shared → Prop} (hs : s.heap.IsSliceOf sl .none .none (.int (-1) tk)) (h : Q ((n : Int) - 1, -1, n) s) : wpAny (model prog w) A (Builtin.Slice.sliceApplied (.ref sl) (pure (n : Int))) Q E s := by
  obtain ⟨os, hos, hcs, hds⟩ := id hs
  unfold Builtin.Slice.sliceApplied Builtin.Slice.sliceFields
  refine wpAny_bind (wpAny_bind (wpAny_field hos hds (x := .none) rfl (wpAny_bind (wpAny_field hos hds (x := .none) rfl (wpAny_bind (wpAny_field hos hds (x := .int (-1) tk) rfl (wpAny_pure ?_)))))))
  refine wpAny_bind (HT.slicePart_ (.int (-1) tk) ?_)
  show wpAny _ _ (if ((-1 : Int) == 0) = true then _ else _) _ _ s
  rw [if_neg (by decide)]
  refine wpAny_bind (HT.slicePart_ .none (wpAny_bind (HT.slicePart_ .none (wpAny_bind (wpAny_pure ?_)))))
  show wpAny _ _ (match Builtin.Slice.sliceAdjust none none (-1) (n : Int) with | (lo, hi) => pure (lo, (-1 : Int), Builtin.Slice.slicePlaces lo hi (-1))) _ _ s
  rw [adjust_back]
  show wpAny _ _ (pure ((n : Int) - 1, (-1 : Int), Builtin.Slice.slicePlaces ((n : Int) - 1) (-1) (-1))) _ _ s
  rw [places_back]
  exact wpAny_pure h
theorem fm_map {α β : Type} {f : α → Option β} {g : α → β} : ∀ {l : List α}, (∀ m ∈ l, f m = some (g m)) → l.filterMap f = l.map g
  | [], _ => rfl
  | a :: l, h => by
    rw [List.filterMap_cons, h a List.mem_cons_self, List.map_cons, fm_map fun m hm => h m (List.mem_cons_of_mem _ hm)]
theorem back_map (L : List Value) : (List.range L.length).map (fun (m : Nat) => L.getD (L.length - 1 - m) .none) = L.reverse := by
  apply List.ext_getElem
  · simp
  · intro i h1 h2
    have hi : i < L.length := by simpa using h2
    have h3 : L.length - 1 - i < L.length := by omega
    rw [List.getElem_map, List.getElem_range, List.getElem_reverse, List.getD_eq_getElem?_getD, List.getElem?_eq_getElem h3]
    rfl
theorem pick_back (xs : Array Value) : ((List.range xs.size).filterMap fun (m : Nat) => xs[(((xs.size : Int) - 1) + (m : Int) * (-1)).toNat]?).toArray = xs.toList.reverse.toArray := by
  congr 1
  rw [← back_map xs.toList, Array.length_toList]
  refine fm_map fun m hm => ?_
  have hm := List.mem_range.mp hm
  have e1 : (((xs.size : Int) - 1) + (m : Int) * (-1)).toNat = xs.size - 1 - m := by omega
  have h2 : xs.size - 1 - m < xs.size := by omega
  rw [e1, Array.getElem?_eq_getElem h2, List.getD_eq_getElem?_getD, List.getElem?_eq_getElem (by simpa using h2)]
  simp
theorem getItem_tuple_back {t sl : Addr} {items : Array Value} {tk : Tok} {Q : Value → Shared → Prop} (ht : IsTup s.heap t items) (hs : s.heap.IsSliceOf sl .none .none (.int (-1) tk))
    (h : Q (.ref s.heap.objs.size) { s with heap := s.heap.push { cls := .type "tuple", data := .seq items.toList.reverse.toArray } }) (hsz : items.size ≤ sizeLine) : wpAny (model prog w) A (getItem (.ref t) (.ref sl)) Q E s := by
  have htake : sizeOk (.seq items.toList.reverse.toArray) := by
    show items.toList.reverse.toArray.size ≤ sizeLine
    rw [List.size_toArray, List.length_reverse, Array.length_toList]
    exact hsz
  obtain ⟨os, hos, hcs, hds⟩ := id hs
  have hTs : s.TypeIs (.ref sl) "slice" := ⟨os, hos, hcs⟩
  unfold getItem
  try with_reducible refine wpAny_holding ?_
  first | refine wpAny_bind (wpAny_pure ?_) | skip
  refine wpAny_bind (wpAny_sequenceKey ht.typeIs (by decide) ?_)
  refine wpAny_bind (wpAny_callSpecial?_slot (name := Str.ofString "__getitem__") ht.typeIs PyProof.Rows.slot_tuple_getitem
    (wpAny_call_entry PyProof.Rows.slot_tuple_getitem ht.typeIs entry_tuple_getitem ?_ (args_tuple_getitem _ _)))
  show wpAny _ _ (Builtin.Tuple.tupleItemsOf (.ref t) >>= _) _ _ s
  refine wpAny_bind (tupleItemsOf_ ht ?_)
  refine wpAny_bind (wpAny_typeOf hTs ?_)
  rw [if_pos (by decide)]
  refine wpAny_bind (applied_back hs ?_)
  show wpAny _ _ (if ((((items.size : Int) - 1) == 0 && (-1 : Int) == 1 && items.size == items.size)) = true then _ else _) _ _ s
  rw [if_neg (by simp), pick_back]
  first
    | exact wpAny_bind (m := Builtin.Tuple.tupleExact _) (wpAny_newObj_type (wpAny_pure ⟨_, rfl, wpAny_pure h⟩) htake)
    | exact wpAny_bind (m := Builtin.Tuple.tupleExact _) (wpAny_newObj_type (wpAny_bind (wpAny_pure (wpAny_pure ⟨_, rfl, wpAny_pure h⟩))) htake)
    | exact wpAny_bind (wpAny_bind (m := Builtin.Tuple.tupleExact _) (wpAny_newObj_type (wpAny_pure (wpAny_pure ⟨_, rfl, wpAny_pure h⟩)) htake))
    | exact wpAny_bind (wpAny_bind (m := Builtin.Tuple.tupleExact _) (wpAny_newObj_type (wpAny_pure ⟨_, rfl, wpAny_pure h⟩) htake))
end
def tRevX (K : PySem.W.Frag) (te : TE) : TE := fun σ H Q => te σ H fun x H1 => ∃ a xs, x = .ref a ∧ ((SqL K H1 a xs ∧ ∀ p, H1 p = none → Q (.ref p) (upd H1 p (.lst xs.reverse))) ∨ (SqT K H1 a xs ∧ ∀ p, H1 p = none → Q (.ref p) (upd H1 p (.tup xs.reverse))))
theorem pe_revX {X : Cx} {e : Expr} {te : TE} {k : Nat} {p1 p2 p3 pos : Pos} (he : PE X e te) : PE X (.Subscript e (.Slice none none (some (.UnaryOp .USub (.Constant (.int 1) k p1) p2)) p3) pos) (tRevX X.K te) := by
  refine ⟨fun pins s σ H Q I h => ?_⟩
  refine Subscript_ (thn (he.run pins s σ H _ I h) fun v s1 ⟨x, H1, I1, r1, q1⟩ => ?_)
  obtain ⟨a, xs, ex, q⟩ := q1
  subst ex
  cases r1
  have hst : PO X (some (.UnaryOp .USub (.Constant (.int 1) k p1) p2)) (tPart (tUn (rU fun i => .int (-i)) (tC (.int 1)))) := po_some (pe_un un_neg pe_int)
  refine wpAny_Slice (thn (po_none.run pins s1 σ H1 (fun o H2 => o = none ∧ H2 = H1) I1 ⟨rfl, rfl⟩) fun vl s2 ⟨l, H2, I2, pl, el, e2⟩ => ?_)
  subst el e2
  refine thn (po_none.run pins s2 σ H2 (fun o H3 => o = none ∧ H3 = H2) I2 ⟨rfl, rfl⟩) fun vu s3 ⟨u, H3, I3, pu, eu, e3⟩ => ?_
  subst eu e3
  refine thn (hst.run pins s3 σ H3 (fun o H4 => o = some (-1) ∧ H4 = H3) I3 ⟨1, rfl, -1, rfl, rfl, rfl⟩) fun vs s4 ⟨o, H4, I4, ps, eo, e4⟩ => ?_
  subst eo e4
  have I5 : Inv X pins σ H4 { s4 with heap := s4.heap.push { cls := .type "slice", data := .fields #[vl, vu, vs] } } := I4.kept (t' := s4.toks) fun b ob q => Heap.get?_push_of_some _ q
  show wpAny (model X.prog X.w) X.A (subscriptTail e (.Slice none none (some (.UnaryOp .USub (.Constant (.int 1) k p1) p2)) p3) (.ref a) (.ref s4.heap.objs.size)) (EP X pins σ Q) X.xe { s4 with heap := s4.heap.push { cls := .type "slice", data := .fields #[vl, vu, vs] } }
  rcases q with ⟨hx, q⟩ | ⟨hx, q⟩
  · obtain ⟨its, r, ht, hz⟩ := I5.list hx
    have hlen := r.length
    refine tail_any (ops := [.ref a, .ref s4.heap.objs.size]) ht.isList.typeIs (PySem.slot_list_getitem.lookup) ?_ (by with_unfolding_all rfl)
    refine wpAny_getItem_list_slice ht.isList (Heap.IsSliceOf.new _ vl vu vs) pl pu ps (by decide) ?_ (by rw [List.size_toArray]; omega)
    rw [PySem.W.krv_pick]
    refine ⟨.ref _, _, I5.laid (t' := s4.toks) (o := .lst xs.reverse) (fun b ob q => Heap.get?_push_of_some _ q) (Nat.le_refl _) ?_, rfl, q _ (I5.hok.fresh (Nat.le_refl _))⟩
    exact ⟨by rw [List.length_reverse]; exact hz, _, 0, r.reverse, Heap.get?_push_size _ rfl⟩
  · obtain ⟨its, r, ht, hz⟩ := I5.tuple hx
    have hlen := r.length
    cases pl
    cases pu
    cases ps
    refine tail_any (ops := [.ref a, .ref s4.heap.objs.size]) ht.typeIs PyProof.Rows.slot_tuple_getitem.lookup ?_ (by with_unfolding_all rfl)
    refine getItem_tuple_back ht (Heap.IsSliceOf.new _ _ _ _) ?_ (by rw [List.size_toArray]; omega)
    refine ⟨.ref _, _, I5.laid (t' := s4.toks) (o := .tup xs.reverse) (fun b ob q => Heap.get?_push_of_some _ q) (Nat.le_refl _) ?_, rfl, q _ (I5.hok.fresh (Nat.le_refl _))⟩
    exact ⟨by rw [List.length_reverse]; exact hz, _, r.reverse, IsTup.new _ _⟩
end Mn
/-! Mn8: slices, what is walked, comprehensions. -/
namespace Mn
open L2 PyProof.Rows PySem.Spec PySem
section
variable {X : Cx} {k : Ka} {W : WX} {cal : Nat → List D → Sto → R D} {fr : Nat} {s : Ev}
/-! ### slices -/
def rdO (k : Ka) (W : WX) (f : Loc → Sto → R (Option Int)) : TO := fun σ H Q => ∃ g L S, RL k g H σ L ∧ RS k g H S ∧ Bk k W σ g H (f L S) fun o _ _ H' => Q o H'
theorem PO.imp {e : Option Expr} {t t' : TO} (h : PO X e t') (i : ∀ σ H Q, t σ H Q → t' σ H Q) : PO X e t := ⟨fun pins s σ H Q I q => h.run pins s σ H Q I (i σ H Q q)⟩
theorem so_none : PO X none (rdO k W (evOpt s none)) := PO.imp po_none fun σ H Q h => by
  obtain ⟨g, L, S, rl, rs, b⟩ := h
  exact b.here rs
theorem so_some {e : Expr} {e' : E} (he : PE X e (rdE k W (s.e e'))) : PO X (some e) (rdO k W (evOpt s (some e'))) := PO.imp (po_some he) fun σ H Q h => by
  obtain ⟨g, L, S, rl, rs, b⟩ := h
  refine ⟨g, L, S, rl, rs, b.bind.imp fun d S1 g1 H1 e1 rs1 bk v r => ?_⟩
  split at bk
  · rename_i i
    cases (show RP k g1 H1 v (.int i) from r)
    exact ⟨i, rfl, bk.here rs1⟩
  · exact bk.elim
theorem cut_rps {g : Gs} {H : Hp} {ps : List P} {vs : List V} (lo hi : Option Int) (r : RPs k g H vs ps) : RPs k g H (cutV vs lo hi) (cut ps lo hi) := by
  unfold cutV cut
  rw [r.length]
  exact (r.drop _).take _
theorem se_sl {a : Expr} {a' : E} {lo hi : Option Expr} {lo' hi' : Option E} {p2 pos : Pos} (hK : X.K = k.K) (ha : PE X a (rdE k W (s.e a'))) (hlo : PO X lo (rdO k W (evOpt s lo'))) (hhi : PO X hi (rdO k W (evOpt s hi'))) :
    PE X (.Subscript a (.Slice lo hi none p2) pos) (rdE k W (evE cal fr s (.sl a' lo' hi'))) := by
  refine PE.imp (pe_slice (sl_tupA.or sl_list) ha hlo hhi) fun σ H Q h => ?_
  obtain ⟨g, L, S, rl, rs, b⟩ := h
  refine ⟨g, L, S, rl, rs, b.bind.imp fun x S1 g1 H1 e1 rs1 b1 vx rx => ⟨g1, L, S1, rl.mono e1, rs1, b1.bind.imp fun i S2 g2 H2 e2 rs2 b2 => ⟨g2, L, S2, rl.mono (e1.trans e2), rs2, b2.bind.imp fun j S3 g3 H3 e3 rs3 b3 => ?_⟩⟩⟩
  unfold slR at b3
  split at b3
  · rename_i p ep
    obtain ⟨z, ez, w⟩ := lift_want b3
    have rr := (rx.mono (e2.trans e3)).der rs3 ep
    cases p <;> simp only [slice] at ez <;> first | (cases ez; done) | skip
    · have ez := Option.some.inj ez
      subst ez
      have r0 := RR.rp rr
      obtain ⟨ad, vs, rfl, hs, r1⟩ := RR.tup rr
      refine .inl ⟨ad, vs, rfl, by rw [hK]; exact hs, fun hw => ?_, fun _ => w.tup rs3 (cut_rps i j r1)⟩
      rename_i ps
      have e1 : clamp ps.length 0 i = 0 := by have := hw.1; rw [r1.length] at this; exact this
      have e2 : clamp ps.length ps.length j = ps.length := by have := hw.2; rw [r1.length] at this; exact this
      have e : cut ps i j = ps := by
        unfold cut
        rw [e1, e2, List.drop_zero, Nat.sub_zero]
        exact List.take_length
      rw [e] at w
      exact w.at rs3 r0
    · have ez := Option.some.inj ez
      subst ez
      obtain ⟨ad, vs, rfl, hs, r1⟩ := RR.lst rr
      exact .inr ⟨ad, vs, rfl, .inl (.inl hs), w.lst rs3 (cut_rps i j r1)⟩
  · exact b3.elim
theorem se_rev {a : Expr} {a' : E} {kk : Nat} {p1 p2 p3 pos : Pos} (hK : X.K = k.K) (ha : PE X a (rdE k W (s.e a'))) :
    PE X (.Subscript a (.Slice none none (some (.UnaryOp .USub (.Constant (.int 1) kk p1) p2)) p3) pos) (rdE k W (evE cal fr s (.rev a'))) := by
  refine PE.imp (pe_revX ha) fun σ H Q h => ?_
  refine rdE.imp (rd_one (F := revR) h) fun vx H1 q => ?_
  obtain ⟨g, x, S, rs, rx, bk⟩ := q
  unfold revR at bk
  split at bk
  · rename_i ps ep
    obtain ⟨ad, vs, rfl, hs, r1⟩ := RR.lst (rx.der rs ep)
    exact ⟨ad, vs, rfl, .inl ⟨.inl (.inl hs), (Bk.okE bk).lst rs r1.reverse⟩⟩
  · rename_i ps ep
    obtain ⟨ad, vs, rfl, hs, r1⟩ := RR.tup (rx.der rs ep)
    exact ⟨ad, vs, rfl, .inr ⟨by rw [hK]; exact hs, (Bk.okE bk).tup rs r1.reverse⟩⟩
  · exact bk.elim

/-! ### what is walked -/
/-- the iterator J walks the data ps, from the heap H on -/
def Wk (k : Ka) (g : Gs) (H : Hp) (J : It) (ps : List P) : Prop := ∀ g' H', Gr g H g' H' →
  (∀ (i : Nat) p, ps[i]? = some p → J.go i H' ∧ ∀ x H'' S, RS k g' H' S → J.yld i H' x H'' → Ext g' H' g' H'' ∧ RS k g' H'' S ∧ RP k g' H'' x p) ∧ ∀ i : Nat, ps.length ≤ i → J.stop i H'
def rdI (k : Ka) (W : WX) (f : Loc → Sto → R (List P)) : TI := fun σ H R => ∃ g L S, RL k g H σ L ∧ RS k g H S ∧ Bk k W σ g H (f L S) fun ps _ g' H' => ∀ J, Wk k g' H' J ps → R J H'
theorem Wk.tup {g : Gs} {H : Hp} {a : Addr} {vs : List V} {ps : List P} (hT : TA k.K g H a vs) (r : RPs k g H vs ps) : Wk k g H (Itt k.K a) ps := fun g' H' x => by
  have t' : SqT k.K H' a vs := by
    rcases hT with t | t
    · exact .inl (.inl (x.kp _ _ t.1 trivial t.2))
    · exact TA.sq (g := g) (.inr t)
  have r' := r.gr x
  refine ⟨fun i p e => ?_, fun i hi => ⟨vs, t', by rw [r'.length]; exact hi⟩⟩
  obtain ⟨v, e1, rv⟩ := r'.get e
  refine ⟨⟨vs, v, t', e1⟩, fun z H'' S rs y => ?_⟩
  obtain ⟨rfl, y⟩ := y
  have ez := Option.some.inj ((y vs t').symm.trans e1)
  subst ez
  exact ⟨.refl, rs, rv⟩
theorem Wk.lst {g : Gs} {H : Hp} {a : Addr} {vs : List V} {ps : List P} (hT : H a = some (.lst vs)) (nm : ¬ g.M a) (r : RPs k g H vs ps) : Wk k g H (Itl k.K a) ps := fun g' H' x => by
  have t' : SqL k.K H' a vs := .inl (.inl (x.kp _ _ hT trivial nm))
  have r' := r.gr x
  refine ⟨fun i p e => ?_, fun i hi => ⟨vs, t', by rw [r'.length]; exact hi⟩⟩
  obtain ⟨v, e1, rv⟩ := r'.get e
  refine ⟨⟨vs, v, t', e1⟩, fun z H'' S rs y => ?_⟩
  obtain ⟨rfl, y⟩ := y
  have ez := Option.some.inj ((y vs t').symm.trans e1)
  subst ez
  exact ⟨.refl, rs, rv⟩
theorem Wk.scr {g : Gs} {H : Hp} {a : Addr} {ns : List Int} (hT : ScA k.K g H a (ns.map V.int)) : Wk k g H (Itl k.K a) (ns.map .int) := fun g' H' x => by
  have t' : SqL k.K H' a (ns.map V.int) := by
    rcases hT with ⟨o, t⟩ | t
    · exact .inl (.inr ⟨o, x.kp _ _ t.1 trivial t.2⟩)
    · exact ScA.sq (g := g) (.inr t)
  refine ⟨fun i p e => ?_, fun i hi => ⟨_, t', by rw [List.length_map] at hi ⊢; exact hi⟩⟩
  rw [List.getElem?_map] at e
  obtain ⟨n, e1, rfl⟩ := Option.map_eq_some_iff.mp e
  have e2 : (ns.map V.int)[i]? = some (.int n) := by rw [List.getElem?_map, e1]; rfl
  refine ⟨⟨_, _, t', e2⟩, fun z H'' S rs y => ?_⟩
  obtain ⟨rfl, y⟩ := y
  have ez := Option.some.inj ((y _ t').symm.trans e2)
  subst ez
  exact ⟨.refl, rs, .int n⟩
theorem iota_get : ∀ (n : Nat) (lo : Int) (i : Nat) (p : P), (iota lo n)[i]? = some p → i < n ∧ p = .int (lo + i)
  | 0, _, _, _, h => by simp [iota] at h
  | n + 1, lo, 0, p, h => by
    simp [iota] at h
    subst h
    exact ⟨Nat.succ_pos n, by simp⟩
  | n + 1, lo, i + 1, p, h => by
    obtain ⟨h1, h2⟩ := iota_get n (lo + 1) i p (by simpa [iota] using h)
    refine ⟨Nat.succ_lt_succ h1, ?_⟩
    rw [h2]
    congr 1
    omega
theorem iota_len : ∀ (n : Nat) (lo : Int), (iota lo n).length = n
  | 0, _ => rfl
  | n + 1, lo => congrArg (· + 1) (iota_len n (lo + 1))
theorem Wk.rng {g : Gs} {H : Hp} {lo : Int} {n : Nat} : Wk k g H (Itr lo n) (iota lo n) := fun g' H' x => by
  refine ⟨fun i p e => ?_, fun i hi => by rw [iota_len] at hi; exact hi⟩
  obtain ⟨h1, rfl⟩ := iota_get n lo i p e
  refine ⟨h1, fun z H'' S rs y => ?_⟩
  obtain ⟨rfl, rfl⟩ := y
  exact ⟨.refl, rs, .int _⟩
end
end Mn
/-! Mx4: enumerate of a tuple. -/
namespace Mn
open L2 PyProof.Rows PySem.Spec PySem
theorem meets_enumerate_B1 {v : Value} {o : Obj} {H : Heap → Prop} (B : Begins v o H) :
    Meets (Builtin.«enumerate.__new__» ⟨[.type "enumerate", v], []⟩) (fun _ R s => H s.heap ∧
      R (.ok (.ret (.ref (s.heap.push o).objs.size))) { s with heap := (s.heap.push o).push { cls := .type "enumerate", data := .fields #[.none, .bool false, .ref s.heap.objs.size, rawInt 0, .none, .none] } }) :=
  .of_wp fun prog w A R s h => by
    obtain ⟨hp, g, d, tk, os⟩ := s; obtain ⟨h1, h⟩ := h
    have hsub := sub_enumerate
    have q1 : ∀ {A' : Around} {E : Value → Shared → Prop} {Q : Value → Shared → Prop}, Q (.ref hp.objs.size) ⟨hp.push o, g, d, tk, os⟩ → wpAny (model prog w) A' (pyIter v) Q E ⟨hp, g, d, tk, os⟩ :=
      fun q => B.iter prog w _ _ ⟨hp, g, d, tk, os⟩ _ h1 q
    wp_walk using q1
    refine wpAny_stack_any fun st => wpAny_pure ?_
    split
    · rename_i c _ _ _ _ _
      cases (c == Value.type "enumerate")
      · wp_walk using q1
        exact ⟨_, rfl, h⟩
      · wp_walk using q1
        exact ⟨_, rfl, h⟩
    · wp_walk using q1
      exact ⟨_, rfl, h⟩
theorem call_enum_B1 {prog : Program} {w : World} {A : Around} {E : Value → Shared → Prop} {s : Shared} {v : Value} {o : Obj} {H : Heap → Prop} {Q : Value → Shared → Prop} (B : Begins v o H) (h1 : H s.heap)
    (h : ∀ h', IsEnum h' (s.heap.objs.size + 1) s.heap.objs.size 0 .none → h'.get? s.heap.objs.size = some o → h'.objs.size = s.heap.objs.size + 2 →
      (∀ b o, s.heap.get? b = some o → h'.get? b = some o) → Q (.ref (s.heap.objs.size + 1)) { s with heap := h' }) :
    wpAny (model prog w) A (call (.type "enumerate") [v]) Q E s := by
  refine callType_new F.called_enumerate (by decide) (F.typeCall_enumerate_1 _) (F.newCall_enumerate_1 _) (fun obj => F.args_object_init_2 obj _) F.entry_enumerate_new
    (meets_enumerate_B1 B) ⟨h1, ?_⟩
  have hz : (s.heap.push o).objs.size = s.heap.objs.size + 1 := Heap.size_push ..
  show _ ∧ _
  rw [hz]
  have he : IsEnum ((s.heap.push o).push { cls := .type "enumerate", data := .fields #[.none, .bool false, .ref s.heap.objs.size, rawInt 0, .none, .none] }) (s.heap.objs.size + 1) s.heap.objs.size 0 .none := by
    have := Heap.get?_push_size (s.heap.push o) (o := { cls := .type "enumerate", data := .fields #[.none, .bool false, .ref s.heap.objs.size, rawInt 0, .none, .none] }) rfl
    rw [hz] at this; exact this
  refine ⟨⟨_, he, rfl⟩, h _ he (Heap.get?_push_of_some _ (Heap.get?_push_size _ B.free)) (by rw [Heap.size_push, hz]) fun b o x => Heap.get?_push_of_some _ (Heap.get?_push_of_some _ x)⟩
/-- the tuple at a, each item in a new pair -/
def IteT (K : PySem.W.Frag) (a : Addr) : It :=
  ⟨fun i H => ∃ (xs : List V) (x : V), SqT K H a xs ∧ xs[i]? = some x, fun i H v H' => ∃ T x, v = .ref T ∧ H T = none ∧ H' = upd H T (.tup [.int (i : Nat), x]) ∧ ∀ xs, SqT K H a xs → xs[i]? = some x, fun i H => ∃ xs : List V, SqT K H a xs ∧ xs.length ≤ i⟩
theorem tup_of {h : Heap} {a : Addr} {xs : Array Value} (p : IsTup h a xs) : h.IsTuple a xs := by
  obtain ⟨o, h1, h2, n, h3⟩ := p
  exact ⟨o, h1, h2, n, h3⟩
theorem turn_enumT {P : Program} {w : World} {K : PySem.W.Frag} {elts : List Expr} {kk : Nat} {tpos : Pos} (a e it : Addr) :
    Turn P w K (.Tuple elts kk tpos) (IteT K a) [e, it] e (fun i h => (∃ old, IsEnum h e it ((i : Nat) : Int) old) ∧ h.IsTupleIter it a i ∧ e ≠ it) where
  mem := by simp
  obj := fun i h st b hb => by
    obtain ⟨⟨old, he⟩, ⟨o, ho, hc, hd⟩, _⟩ := st
    have e' : b = e ∨ b = it := by simpa using hb
    rcases e' with z | z
    · rw [z]; exact ⟨_, he, fun v q => nomatch q⟩
    · rw [z]; exact ⟨o, ho, fun v q => by rw [hd] at q; cases q⟩
  keep := fun i h h' st k => let ⟨⟨old, he⟩, hi, hne⟩ := st; ⟨⟨old, k e (by simp) _ he⟩, hi.at fun o q => k it (by simp) o q, hne⟩
  item := by
    intro X hP hw hK hc i pins s σ H E I hf st hg
    subst hP hw hK
    obtain ⟨⟨old, he⟩, hit, hne⟩ := st
    obtain ⟨xs, x, hq, hx⟩ := hg
    obtain ⟨its, rv, p, hz⟩ := I.tuple hq
    obtain ⟨u, hu, ru⟩ := rv.get hx
    have ht := tup_of p
    have hel : e < s.heap.objs.size := Heap.lt_size he
    have hil : it < s.heap.objs.size := by obtain ⟨_, q, _⟩ := hit; exact Heap.lt_size q
    have hai : a ≠ it := fun z => by
      obtain ⟨o, h1, h2, _⟩ := ht
      obtain ⟨o', h1', h2', _⟩ := hit
      rw [z, h1'] at h1
      cases h1
      rw [h2'] at h2
      exact absurd (Value.type.inj h2) (by decide)
    have hea : e ≠ a := fun z => by
      obtain ⟨o, h1, h2, _⟩ := ht
      have he' := he
      unfold IsEnum at he'
      rw [← z, he'] at h1
      cases h1
      exact absurd (Value.type.inj h2) (by decide)
    have hlt : i < its.toArray.size := by
      have := (List.getElem?_eq_some_iff.mp hu).1
      simpa using this
    refine wpAny_pyNext_enum_itemD (Draws.tuple (A := X.A.in1) (I.ok.hd hc) it a hai its.toArray) he ⟨hit, ht⟩ hlt hne (by simp [hne, hea]) fun v h' tk hPx ho hst hT hsz hk => ?_
    have ev : v = u := by
      have q : its.toArray[i]? = some v := hPx
      simp only [List.getElem?_toArray] at q
      rw [hu] at q
      exact (Option.some.inj q).symm
    subst ev
    refine ⟨_, rfl, wpAny_letOwnedTupleGo_enum (s := { s with heap := h', toks := tk + 1 }) ho fun h'' he' sb => ?_⟩
    have hT2 : h''.get? s.heap.objs.size = some { cls := .type "tuple", data := .seq #[.int i tk, v] } := (sb.2 _ (Nat.ne_of_gt hel)).trans hT
    have new : ObjOk X.prog X.w (upd H s.heap.objs.size (.tup [.int (i : Nat), x])) h'' s.heap.objs.size (.tup [.int (i : Nat), x]) :=
      ⟨by show 2 ≤ sizeLine; decide, [.int i tk, v], .cons ⟨_, rfl⟩ (.cons ru .nil), ⟨_, hT2, rfl, _, rfl⟩⟩
    have I1 : Inv X pins σ (upd H s.heap.objs.size (.tup [.int (i : Nat), x])) { s with heap := h'', toks := tk + 1 } :=
      I.turnedNew (ch := [e, it]) (fun b ob hb q => (sb.2 b (fun z => hb (by simp [z]))).trans (hk b ob (fun z => hb (by simp [z])) (fun z => hb (by simp [z])) q)) hf (Nat.le_refl _) new
    refine ⟨.ref s.heap.objs.size, _, I1, rfl, ⟨_, x, rfl, I.hok.fresh (Nat.le_refl _), rfl, fun ys hy => by rw [I.tuple_inj hy hq]; exact hx⟩, ⟨⟨v, ?_⟩, hst.1.at fun o q => (sb.2 it (Ne.symm hne)).trans q, hne⟩, fun b hb => ?_⟩
    · have e1 : ((i + 1 : Nat) : Int) = (i : Int) + 1 := by omega
      rw [e1]; exact he'
    · have hb' : b < s.heap.objs.size := by
        have e' : b = e ∨ b = it := by simpa using hb
        rcases e' with z | z
        · rw [z]; exact hel
        · rw [z]; exact hil
      rw [upd_ne (Nat.ne_of_lt hb')]
      exact (hf b hb).1
  done := by
    intro X hP hw hK hc i pins s σ H E I hf st hg
    subst hP hw hK
    obtain ⟨⟨old, he⟩, hit, hne⟩ := st
    obtain ⟨xs, hq, hx⟩ := hg
    obtain ⟨its, rv, p, hz⟩ := I.tuple hq
    have ht := tup_of p
    obtain ⟨f0, f1, f2, f3, f4, f5⟩ := hf it (by simp)
    have hl := rv.length
    have hai : a ≠ it := fun z => by
      obtain ⟨o, h1, h2, _⟩ := ht
      obtain ⟨o', h1', h2', _⟩ := hit
      rw [z, h1'] at h1
      cases h1
      rw [h2'] at h2
      exact absurd (Value.type.inj h2) (by decide)
    have hT : s.TypeIs (.ref e) "enumerate" := ⟨_, he, rfl⟩
    unfold pyNext
    refine wpAny_bind (wpAny_attempt (wpAny_callSpecial?_slot (name := Str.ofString "__next__") hT F.slot_enumerate_next
      (wpAny_call_entry F.slot_enumerate_next hT F.entry_enumerate_next ?_ (F.args_enumerate_next_1 _))))
    show wpAny _ _ (field (.ref e) 2 >>= _) _ _ _
    refine wpAny_bind (wpAny_field he rfl (x := .ref it) rfl ?_)
    refine wpAny_bind (wpAny_nextOf_tuple_end (I.ok.hd hc) hit ht (by simp; omega) fun h' x he' hx' => ?_)
    obtain ⟨o, ho, hc⟩ := hx'
    refine wpAny_bind (wpAny_isInstance (T := "StopIteration") (b := true) ⟨o, ho, hc⟩ isSubtype_stop ?_)
    exact wpAny_pure ⟨rfl, I.turned (t' := s.toks) (fun b o hb q => he' b o hb q) f0 f1 f3 f4 f5⟩
  self := fun A i s Q E st h => let ⟨⟨_, he⟩, _⟩ := st; wpAny_pyIter_enum he h
def iEnum2 (K : PySem.W.Frag) (ta : L2.TA) : TI := fun σ H R => ta σ H fun vs H1 => ∃ a xs, vs = [.ref a] ∧ ((SqL K H1 a xs ∧ R (Ite K a) H1) ∨ (SqT K H1 a xs ∧ R (IteT K a) H1))
theorem pi_enum2 {X : Cx} {e : Expr} {ta : L2.TA} {p pos tpos : Pos} {elts : List Expr} {kk : Nat} (hg : Gl X "enumerate") (hm : X.mg "enumerate" = none) (ha : PA X [e] ta) (hs : starEach [e] X.env = [(false, eval e X.env)] := by rfl) :
    PI X (.Tuple elts kk tpos) (.Call (.Name "enumerate" p) [e] [] pos) (iEnum2 X.K ta) := by
  refine ⟨fun pins s σ H R I h => ?_⟩
  refine Call_ (ld_blt I hg hm boot_enumerate (PyProof.Rows.callWith_type1 (thn (ha.run pos pins s σ H _ I h) fun us s1 ⟨vs, H1, I1, r1, q1⟩ => ?_) hs rfl))
  obtain ⟨a, xs, ex, hq⟩ := q1
  subst ex
  have fp : ∀ b, b ∈ [s1.heap.objs.size + 1, s1.heap.objs.size] → FpOk X pins H1 b := fun b hb => by
    have e' : b = s1.heap.objs.size + 1 ∨ b = s1.heap.objs.size := by simpa using hb
    have hle : s1.heap.objs.size ≤ b := by
      rcases e' with z | z
      · rw [z]; exact Nat.le_add_right _ _
      · rw [z]; exact Nat.le_refl _
    exact I1.fpOk hle (I1.hok.fresh hle)
  cases r1 with
  | cons r rr =>
    cases rr
    cases r
    rcases hq with ⟨hq, q⟩ | ⟨hq, q⟩
    · obtain ⟨its, rv, p', hz⟩ := I1.list hq
      refine call_enumerate_list p'.isList fun h' he hit hsz hk => wpAny_pyIter_enum he ?_
      have I2 : Inv X pins σ H1 { s1 with heap := h' } := I1.kept (t' := s1.toks) hk
      exact ⟨s1.heap.objs.size + 1, [s1.heap.objs.size + 1, s1.heap.objs.size], _, _, H1, rfl, I2, turn_enum a (s1.heap.objs.size + 1) s1.heap.objs.size, ⟨⟨.none, he⟩, hit, Nat.succ_ne_self _⟩, fp, q⟩
    · obtain ⟨its, rv, p', hz⟩ := I1.tuple hq
      refine call_enum_B1 (begins_tuple a its.toArray) (tup_of p') fun h' he hit hsz hk => wpAny_pyIter_enum he ?_
      have I2 : Inv X pins σ H1 { s1 with heap := h' } := I1.kept (t' := s1.toks) hk
      exact ⟨s1.heap.objs.size + 1, [s1.heap.objs.size + 1, s1.heap.objs.size], _, _, H1, rfl, I2, turn_enumT a (s1.heap.objs.size + 1) s1.heap.objs.size, ⟨⟨.none, he⟩, ⟨_, hit, rfl, rfl⟩, Nat.succ_ne_self _⟩, fp, q⟩
end Mn
/-! Mn9: loops' walks, targets, comprehensions. -/
namespace Mn
open L2 PyProof.Rows PySem.Spec PySem
section
variable {X : Cx} {k : Ka} {W : WX} {cal : Nat → List D → Sto → R D} {fr : Nat} {s : Ev}
theorem Wk.str {g : Gs} {H : Hp} {x : Str} : Wk k g H (Its x) (x.cps.toList.map fun c => .str ⟨#[c]⟩) := fun g' H' _ => by
  refine ⟨fun i p e => ?_, fun i hi => by simp only [List.length_map, Array.length_toList] at hi; exact hi⟩
  rw [List.getElem?_map] at e
  obtain ⟨c, e1, rfl⟩ := Option.map_eq_some_iff.mp e
  have e2 : x.cps[i]? = some c := by simpa using e1
  refine ⟨(Array.getElem?_eq_some_iff.mp e2).1, fun z H'' S rs y => ?_⟩
  obtain ⟨rfl, d, e3, rfl⟩ := y
  have : c = d := Option.some.inj (e2.symm.trans e3)
  subst this
  exact ⟨.refl, rs, .str _⟩
theorem zips_get : ∀ (ps qs : List P) (i : Nat) (r : P), (zips ps qs)[i]? = some r → ∃ p q, ps[i]? = some p ∧ qs[i]? = some q ∧ r = .tup [p, q]
  | [], _, _, _, h => by simp [zips] at h
  | _ :: _, [], _, _, h => by simp [zips] at h
  | p :: ps, q :: qs, 0, r, h => by
    simp [zips] at h
    exact ⟨p, q, rfl, rfl, h.symm⟩
  | p :: ps, q :: qs, i + 1, r, h => by
    obtain ⟨a, b, h1, h2, h3⟩ := zips_get ps qs i r (by simpa [zips] using h)
    exact ⟨a, b, by simpa using h1, by simpa using h2, h3⟩
theorem zips_len : ∀ (ps qs : List P) (i : Nat), (zips ps qs).length ≤ i → ps.length ≤ i ∨ qs.length ≤ i
  | [], _, _, _ => .inl (Nat.zero_le _)
  | _ :: _, [], _, _ => .inr (Nat.zero_le _)
  | p :: ps, q :: qs, 0, h => by simp [zips] at h
  | p :: ps, q :: qs, i + 1, h => by
    have h' : (zips ps qs).length + 1 ≤ i + 1 := h
    rcases zips_len ps qs i (Nat.le_of_succ_le_succ h') with z | z
    · exact .inl (Nat.succ_le_succ z)
    · exact .inr (Nat.succ_le_succ z)
theorem two_rps {g : Gs} {H : Hp} {v w : V} {p q : P} (a : RP k g H v p) (b : RP k g H w q) : RPs k g H [v, w] [p, q] := .cons a (.cons b .nil)
theorem Wk.zipL {g : Gs} {H : Hp} {a b : Addr} {xs ys : List V} {ps qs : List P} (h1 : H a = some (.lst xs)) (n1 : ¬ g.M a) (r1 : RPs k g H xs ps) (h2 : H b = some (.lst ys)) (n2 : ¬ g.M b) (r2 : RPs k g H ys qs) :
    Wk k g H (Itz k.K a b) (zips ps qs) := fun g' H' x => by
  have q1 : SqL k.K H' a xs := .inl (.inl (x.kp _ _ h1 trivial n1))
  have q2 : SqL k.K H' b ys := .inl (.inl (x.kp _ _ h2 trivial n2))
  have s1 := r1.gr x
  have s2 := r2.gr x
  refine ⟨fun i r e => ?_, fun i hi => ⟨xs, ys, q1, q2, by rw [s1.length, s2.length]; exact zips_len _ _ _ hi⟩⟩
  obtain ⟨p, q, e1, e2, rfl⟩ := zips_get _ _ _ _ e
  obtain ⟨v, e3, rv⟩ := s1.get e1
  obtain ⟨w, e4, rw'⟩ := s2.get e2
  refine ⟨⟨xs, ys, v, w, q1, q2, e3, e4⟩, fun z H'' S rs y => ?_⟩
  obtain ⟨T, v', w', rfl, hT, rfl, y1, y2⟩ := y
  have ev := Option.some.inj ((y1 _ q1).symm.trans e3)
  have ew := Option.some.inj ((y2 _ q2).symm.trans e4)
  subst ev ew
  exact ⟨Ext.laid rs hT _, rs.laid hT _, RP.newTup rs hT (two_rps rv rw')⟩
theorem Wk.zipT {g : Gs} {H : Hp} {a b : Addr} {xs ys : List V} {ps qs : List P} (h1 : TA k.K g H a xs) (r1 : RPs k g H xs ps) (h2 : TA k.K g H b ys) (r2 : RPs k g H ys qs) :
    Wk k g H (RZ.ItzT k.K a b) (zips ps qs) := fun g' H' x => by
  have mv : ∀ {a : Addr} {xs : List V}, TA k.K g H a xs → SqT k.K H' a xs := fun {a xs} t => by
    rcases t with t | t
    · exact .inl (.inl (x.kp _ _ t.1 trivial t.2))
    · exact TA.sq (g := g) (.inr t)
  have q1 := mv h1
  have q2 := mv h2
  have s1 := r1.gr x
  have s2 := r2.gr x
  refine ⟨fun i r e => ?_, fun i hi => ⟨xs, ys, q1, q2, by rw [s1.length, s2.length]; exact zips_len _ _ _ hi⟩⟩
  obtain ⟨p, q, e1, e2, rfl⟩ := zips_get _ _ _ _ e
  obtain ⟨v, e3, rv⟩ := s1.get e1
  obtain ⟨w, e4, rw'⟩ := s2.get e2
  refine ⟨⟨xs, ys, v, w, q1, q2, e3, e4⟩, fun z H'' S rs y => ?_⟩
  obtain ⟨T, v', w', rfl, hT, rfl, y1, y2⟩ := y
  have ev := Option.some.inj ((y1 _ q1).symm.trans e3)
  have ew := Option.some.inj ((y2 _ q2).symm.trans e4)
  subst ev ew
  exact ⟨Ext.laid rs hT _, rs.laid hT _, RP.newTup rs hT (two_rps rv rw')⟩
theorem enums_get : ∀ (ps : List P) (n : Int) (i : Nat) (r : P), (enums n ps)[i]? = some r → ∃ p, ps[i]? = some p ∧ r = .tup [.int (n + i), p]
  | [], _, _, _, h => by simp [enums] at h
  | p :: ps, n, 0, r, h => by
    simp [enums] at h
    exact ⟨p, rfl, by rw [← h]; simp⟩
  | p :: ps, n, i + 1, r, h => by
    obtain ⟨q, h1, h2⟩ := enums_get ps (n + 1) i r (by simpa [enums] using h)
    refine ⟨q, by simpa using h1, ?_⟩
    rw [h2]
    congr 3
    omega
theorem enums_len : ∀ (ps : List P) (n : Int), (enums n ps).length = ps.length
  | [], _ => rfl
  | p :: ps, n => congrArg (· + 1) (enums_len ps (n + 1))
theorem Wk.enumL {g : Gs} {H : Hp} {a : Addr} {xs : List V} {ps : List P} (h1 : H a = some (.lst xs)) (n1 : ¬ g.M a) (r1 : RPs k g H xs ps) : Wk k g H (Ite k.K a) (enums 0 ps) := fun g' H' x => by
  have q1 : SqL k.K H' a xs := .inl (.inl (x.kp _ _ h1 trivial n1))
  have s1 := r1.gr x
  refine ⟨fun i r e => ?_, fun i hi => ⟨xs, q1, by rw [enums_len] at hi; rw [s1.length]; exact hi⟩⟩
  obtain ⟨p, e1, rfl⟩ := enums_get _ _ _ _ e
  obtain ⟨v, e3, rv⟩ := s1.get e1
  refine ⟨⟨xs, v, q1, e3⟩, fun z H'' S rs y => ?_⟩
  obtain ⟨T, v', rfl, hT, rfl, y1⟩ := y
  have ev := Option.some.inj ((y1 _ q1).symm.trans e3)
  subst ev
  refine ⟨Ext.laid rs hT _, rs.laid hT _, RP.newTup rs hT (two_rps ?_ rv)⟩
  rw [Int.zero_add]
  exact .int _

theorem Wk.enumT {g : Gs} {H : Hp} {a : Addr} {xs : List V} {ps : List P} (h1 : TA k.K g H a xs) (r1 : RPs k g H xs ps) : Wk k g H (IteT k.K a) (enums 0 ps) := fun g' H' x => by
  have q1 : SqT k.K H' a xs := by
    rcases h1 with h1 | h1
    · exact .inl (.inl (x.kp _ _ h1.1 trivial h1.2))
    · exact TA.sq (g := g) (.inr h1)
  have s1 := r1.gr x
  refine ⟨fun i r e => ?_, fun i hi => ⟨xs, q1, by rw [enums_len] at hi; rw [s1.length]; exact hi⟩⟩
  obtain ⟨p, e1, rfl⟩ := enums_get _ _ _ _ e
  obtain ⟨v, e3, rv⟩ := s1.get e1
  refine ⟨⟨xs, v, q1, e3⟩, fun z H'' S rs y => ?_⟩
  obtain ⟨T, v', rfl, hT, rfl, y1⟩ := y
  have ev := Option.some.inj ((y1 _ q1).symm.trans e3)
  subst ev
  refine ⟨Ext.laid rs hT _, rs.laid hT _, RP.newTup rs hT (two_rps ?_ rv)⟩
  rw [Int.zero_add]
  exact .int _

theorem keyD_rp {g : Gs} {H : Hp} (ky : Key) : RP k.toKg g H (kV ky) (keyD ky) := by
  cases ky with
  | inl i => exact .int i
  | inr x => exact .str x
theorem zip_get {g : Gs} {H : Hp} : ∀ {ks : List Key} {vs : List V} {ps : List P} {i : Nat} {p : P}, ks.length = ps.length → RPs k.toKg g H vs ps → ps[i]? = some p → ∃ ky v, (ks.zip vs)[i]? = some (ky, v) ∧ ks[i]? = some ky ∧ RP k.toKg g H v p
  | [], _, [], _, _, _, _, e => by simp at e
  | [], _, _ :: _, _, _, h, _, _ => by cases h
  | _ :: _, _, [], _, _, h, _, _ => by cases h
  | ky :: ks, _, q :: ps, i, p, h, r, e => by
    cases r with
    | @cons v vs _ _ a b =>
      cases i with
      | zero =>
        cases e
        exact ⟨ky, v, rfl, rfl, a⟩
      | succ i =>
        obtain ⟨ky', v', h1, h2, h3⟩ := zip_get (ks := ks) (i := i) (Nat.succ.inj h) b (by simpa using e)
        exact ⟨ky', v', by simpa using h1, by simpa using h2, h3⟩
theorem Wk.keys {g : Gs} {H : Hp} {a : Addr} {o : Obj} {ks : List Key} {vs : List V} {ps : List P} (t : H a = some (.frz o (.dK (ks.zip vs)))) (n : ¬ g.M a) (l : ks.length = ps.length) (r : RPs k.toKg g H vs ps) : Wk k g H (Itk a o (ks.zip vs)) (ks.map keyD) := fun g' H' x => by
  have t' := x.kp _ _ t trivial n
  have r' := r.gr x
  have lz : (ks.zip vs).length = ks.length := by rw [List.length_zip, r'.length]; omega
  refine ⟨fun i p e => ?_, fun i hi => ⟨t', by rw [lz]; rw [List.length_map] at hi; exact hi⟩⟩
  rw [List.getElem?_map] at e
  obtain ⟨ky, h2, rfl⟩ := Option.map_eq_some_iff.mp e
  have hi : i < ps.length := by rw [← l]; exact (List.getElem?_eq_some_iff.mp h2).1
  obtain ⟨ky', v, h1, h2', h3⟩ := zip_get l r' (List.getElem?_eq_getElem hi)
  rw [h2] at h2'
  cases h2'
  refine ⟨⟨t', (List.getElem?_eq_some_iff.mp h1).1⟩, fun z H'' S rs y => ?_⟩
  obtain ⟨rfl, ky', v', y, rfl⟩ := y
  rw [h1] at y
  cases y
  exact ⟨.refl, rs, keyD_rp ky⟩
/-! ### the iterators of the text -/
theorem PI.imp {tg e : Expr} {t t' : TI} (h : PI X tg e t') (i : ∀ σ H Q, t σ H Q → t' σ H Q) : PI X tg e t := ⟨fun pins s σ H Q I q => h.run pins s σ H Q I (i σ H Q q)⟩
theorem pie_one {pins : List (Addr × Obj)} {σ : Ls} {H : Hp} {s : Shared} {Rr : It → Hp → Prop} {tg : Expr} {J : It} {tn : Nat → Heap → Prop} {o : Obj} (I : Inv X pins σ H s) (T : Turn X.prog X.w X.K tg J [s.heap.objs.size] s.heap.objs.size tn)
    (h0 : tn 0 (s.heap.push o)) (q : Rr J H) : PIE X pins σ tg Rr (.ref s.heap.objs.size) { s with heap := s.heap.push o } := by
  refine ⟨_, _, tn, J, H, rfl, I.kept (t' := s.toks) fun b o e => Heap.get?_push_of_some _ e, T, h0, fun b hb => ?_, q⟩
  rw [List.mem_singleton.mp hb]
  exact I.fpOk (Nat.le_refl _) (I.hok.fresh (Nat.le_refl _))
/-- anything that is walked as it is -/
theorem pi_any {tg e : Expr} {te : TE} (he : PE X e te) : PI X tg e fun σ H R => te σ H fun v H1 =>
    (∃ a vs, v = .ref a ∧ SqT X.K H1 a vs ∧ R (Itt X.K a) H1) ∨ (∃ a vs, v = .ref a ∧ SqL X.K H1 a vs ∧ R (Itl X.K a) H1) ∨ (∃ x, v = .str x ∧ R (Its x) H1) ∨ ∃ a o kvs, v = .ref a ∧ H1 a = some (.frz o (.dK kvs)) ∧ R (Itk a o kvs) H1 := by
  refine ⟨fun pins s σ H R I h => thn (he.run pins s σ H _ I h) fun u s1 ⟨v, H1, I1, r1, q1⟩ => ?_⟩
  rcases q1 with ⟨a, vs, rfl, hq, q⟩ | ⟨a, vs, rfl, hq, q⟩ | ⟨x, rfl, q⟩ | ⟨a, o, kvs, rfl, hq, q⟩
  · obtain rfl : u = .ref a := r1
    obtain ⟨its, _, p, _⟩ := I1.tuple hq
    exact wpAny_pyIter_tuple (show s1.heap.IsTuple a its.toArray from p) (pie_one I1 (turn_tuple a _) ⟨_, Heap.get?_push_size _ rfl, rfl, rfl⟩ q)
  · obtain rfl : u = .ref a := r1
    obtain ⟨its, _, p, _⟩ := I1.list hq
    exact wpAny_pyIter_list p.isList (pie_one I1 (turn_list a _) ⟨_, Heap.get?_push_size _ rfl, rfl, rfl⟩ q)
  · obtain ⟨t, rfl⟩ := r1
    cases ha : x.cps.all (· < 128)
    · exact wpAny_pyIter_wide ha (pie_one I1 (turn_str _ x t "str_iterator" (.inr rfl)) ⟨_, Heap.get?_push_size _ rfl, rfl, rfl⟩ q)
    · exact wpAny_pyIter_ascii ha (pie_one I1 (turn_str _ x t "str_ascii_iterator" (.inl rfl)) ⟨_, Heap.get?_push_size _ rfl, rfl, rfl⟩ q)
  · obtain rfl : u = .ref a := r1
    obtain ⟨z1, z2, z3, es, ep, ws, z4, z5, z6, z7⟩ := I1.frzK hq
    refine iter_keys z1 z2 z3 z4 (pie_one I1 (turn_keys _ z4) ⟨_, Heap.get?_push_size _ rfl, rfl, ?_⟩ q)
    rw [z5] <;> rfl
/-- what a for walks, in the evaluator -/
def walkE (s : Ev) (kk : Sk) (es : List E) : Loc → Sto → R (List P) := fun L S => (evs s es L S).bind fun ds S1 => walkR kk ds S1
theorem rdI_args {kk : Sk} {es : List E} {σ : Ls} {H : Hp} {Rr : It → Hp → Prop} (h : rdI k W (walkE s kk es) σ H Rr) :
    rdA k W (evs s es) σ H fun vs H1 => ∃ g S qs ps, RS k g H1 S ∧ RPs k g H1 vs qs ∧ walk kk qs = some ps ∧ ∀ J, Wk k g H1 J ps → Rr J H1 := by
  obtain ⟨g, L, S, rl, rs, b⟩ := h
  refine ⟨g, L, S, rl, rs, b.bind.imp fun ds S1 g1 H1 e1 rs1 bk vs rv => ?_⟩
  unfold walkR at bk
  split at bk
  · rename_i qs eq
    unfold lift at bk
    split at bk
    · rename_i ps ep
      exact ⟨g1, S1, qs, ps, rs1, rv.ofP eq, ep, bk.here rs1⟩
    · exact bk.elim
  · exact bk.elim
theorem si_it {tg e : Expr} {e' : E} (hK : X.K = k.K) (he : PE X e (rdE k W (s.e e'))) : PI X tg e (rdI k W (walkE s .it [e'])) := by
  refine PI.imp (pi_any he) fun σ H Rr h => ?_
  obtain ⟨g, L, S, rl, rs, b⟩ := h
  refine ⟨g, L, S, rl, rs, ?_⟩
  have b0 := b.bind.bind
  refine b0.imp fun d S1 g1 H1 e1 rs1 b1 v rv => ?_
  have b1 : Bk k W σ g1 H1 (walkR .it [d] S1) fun ps _ g' H' => ∀ J, Wk k g' H' J ps → Rr J H' := b1.here rs1
  unfold walkR at b1
  cases d with
  | ref n => exact b1.elim
  | lam _ _ _ => exact b1.elim
  | clo _ _ => exact b1.elim
  | dead => exact b1.elim
  | me => exact b1.elim
  | lams _ _ => exact b1.elim
  | p x =>
    have b2 : Bk k W σ g1 H1 (lift S1 (walk .it [x])) fun ps _ g' H' => ∀ J, Wk k g' H' J ps → Rr J H' := b1
    cases rv' : (show RP k g1 H1 v x from rv) with
    | str y => exact .inr (.inr (.inl ⟨y, rfl, b2.here rs1 _ Wk.str⟩))
    | tup t r => exact .inl ⟨_, _, rfl, by rw [hK]; exact t.sq, by rw [hK]; exact b2.here rs1 _ (Wk.tup t r)⟩
    | lst t n r => exact .inr (.inl ⟨_, _, rfl, by rw [hK]; exact .inl (.inl t), by rw [hK]; exact b2.here rs1 _ (Wk.lst t n r)⟩)
    | scr t => exact .inr (.inl ⟨_, _, rfl, by rw [hK]; exact t.sq, by rw [hK]; exact b2.here rs1 _ (Wk.scr t)⟩)
    | non => exact b2.elim
    | bl _ => exact b2.elim
    | int _ => exact b2.elim
    | dct t l n r => exact .inr (.inr (.inr ⟨_, _, _, rfl, t, b2.here rs1 _ (Wk.keys t n l r)⟩))
    | fn _ => exact b2.elim
    | lamc _ _ => exact b2.elim
    | ins _ _ _ _ _ => exact b2.elim
    | unk _ => exact b2.elim
theorem inR_of {i : Int} (h : inR i = true) : -(2 ^ 62) ≤ i ∧ i < 2 ^ 62 := by
  unfold inR at h
  simpa [Bool.and_eq_true, decide_eq_true_eq] using h
theorem RPs.ints1 {g : Gs} {H : Hp} {vs : List V} {j : Int} (h : RPs k g H vs [.int j]) : vs = [.int j] := by
  cases h with
  | cons a b =>
    cases a
    cases b
    rfl
theorem RPs.ints2 {g : Gs} {H : Hp} {vs : List V} {i j : Int} (h : RPs k g H vs [.int i, .int j]) : vs = [.int i, .int j] := by
  cases h with
  | cons a b =>
    cases a
    rw [RPs.ints1 b]
theorem si_rng1 {tg a : Expr} {a' : E} {p pos : Pos} (hg : Gl X "range") (hm : X.mg "range" = none) (hst : noStar a = true) (ha : PA X [a] (rdA k W (evs s [a']))) : PI X tg (.Call (.Name "range" p) [a] [] pos) (rdI k W (walkE s .rng1 [a'])) := by
  refine PI.imp (pi_range1 hg hm ha (star_of hst [] X.env)) fun σ H Rr h => ?_
  refine rdA.imp (rdI_args h) fun vs H1 q => ?_
  obtain ⟨g, S, qs, ps, rs, rv, hw, q⟩ := q
  have hw : wR1 qs = some ps := hw
  unfold wR1 at hw
  split at hw <;> first | (cases hw; done) | skip
  rename_i j _
  split at hw
  · rename_i hj
    cases hw
    obtain ⟨h1, h2⟩ := inR_of hj
    exact ⟨j, rv.ints1, h1, h2, q _ Wk.rng⟩
  · cases hw
theorem si_rng2 {tg a b : Expr} {a' b' : E} {p pos : Pos} (hg : Gl X "range") (hm : X.mg "range" = none) (hst : noStar a = true) (hst2 : noStar b = true) (ha : PA X [a, b] (rdA k W (evs s [a', b']))) :
    PI X tg (.Call (.Name "range" p) [a, b] [] pos) (rdI k W (walkE s .rng2 [a', b'])) := by
  refine PI.imp (pi_range2 hg hm ha (by rw [star_of hst, star_of hst2]; rfl) (star_of hst2 [] X.env)) fun σ H Rr h => ?_
  refine rdA.imp (rdI_args h) fun vs H1 q => ?_
  obtain ⟨g, S, qs, ps, rs, rv, hw, q⟩ := q
  have hw : wR2 qs = some ps := hw
  unfold wR2 at hw
  split at hw <;> first | (cases hw; done) | skip
  rename_i i j _
  split at hw
  · rename_i hj
    cases hw
    rw [Bool.and_eq_true] at hj
    obtain ⟨h1, h2⟩ := inR_of hj.1
    obtain ⟨h3, h4⟩ := inR_of hj.2
    exact ⟨i, j, rv.ints2, ⟨h1, h2, h3, h4⟩, q _ Wk.rng⟩
  · cases hw
theorem si_zip {a b : Expr} {a' b' : E} {p pos tpos : Pos} {elts : List Expr} {kk : Nat} (hK : X.K = k.K) (hg : Gl X "zip") (hm : X.mg "zip" = none) (hst : noStar a = true) (hst2 : noStar b = true) (ha : PA X [a, b] (rdA k W (evs s [a', b']))) :
    PI X (.Tuple elts kk tpos) (.Call (.Name "zip" p) [a, b] [] pos) (rdI k W (walkE s .zip [a', b'])) := by
  refine PI.imp (RZ.pi_zipA hg hm ha (star_of hst [b] X.env) (by rw [star_of hst2]; rfl)) fun σ H Rr h => ?_
  refine rdA.imp (rdI_args h) fun vs H1 q => ?_
  obtain ⟨g, S, qs, ps, rs, rv, hw, q⟩ := q
  have hw : wZip qs = some ps := hw
  unfold wZip at hw
  split at hw <;> first | (cases hw; done) | skip
  · cases hw
    cases rv with
    | cons r1 r2 =>
      cases r2 with
      | cons r2 r3 =>
        cases r3
        cases r1 with
        | tup t1 r1 =>
          cases r2 with
          | tup t2 r2 => exact ⟨_, _, _, _, rfl, .inr ⟨by rw [hK]; exact t1.sq, by rw [hK]; exact t2.sq, by rw [hK]; exact q _ (Wk.zipT t1 r1 t2 r2)⟩⟩
  · cases hw
    cases rv with
    | cons r1 r2 =>
      cases r2 with
      | cons r2 r3 =>
        cases r3
        cases r1 with
        | lst t1 n1 r1 =>
          cases r2 with
          | lst t2 n2 r2 => exact ⟨_, _, _, _, rfl, .inl ⟨by rw [hK]; exact .inl (.inl t1), by rw [hK]; exact .inl (.inl t2), by rw [hK]; exact q _ (Wk.zipL t1 n1 r1 t2 n2 r2)⟩⟩
theorem si_enum {a : Expr} {a' : E} {p pos tpos : Pos} {elts : List Expr} {kk : Nat} (hK : X.K = k.K) (hg : Gl X "enumerate") (hm : X.mg "enumerate" = none) (hst : noStar a = true) (ha : PA X [a] (rdA k W (evs s [a']))) :
    PI X (.Tuple elts kk tpos) (.Call (.Name "enumerate" p) [a] [] pos) (rdI k W (walkE s .enum [a'])) := by
  refine PI.imp (pi_enum2 hg hm ha (star_of hst [] X.env)) fun σ H Rr h => ?_
  refine rdA.imp (rdI_args h) fun vs H1 q => ?_
  obtain ⟨g, S, qs, ps, rs, rv, hw, q⟩ := q
  have hw : wEn qs = some ps := hw
  unfold wEn at hw
  split at hw <;> first | (cases hw; done) | skip
  · cases hw
    cases rv with
    | cons r1 r2 =>
      cases r2
      cases r1 with
      | lst t1 n1 r1 => exact ⟨_, _, rfl, .inl ⟨by rw [hK]; exact .inl (.inl t1), by rw [hK]; exact q _ (Wk.enumL t1 n1 r1)⟩⟩
  · cases hw
    cases rv with
    | cons r1 r2 =>
      cases r2
      cases r1 with
      | tup t1 r1 => exact ⟨_, _, rfl, .inr ⟨by rw [hK]; exact t1.sq, by rw [hK]; exact q _ (Wk.enumT t1 r1)⟩⟩
end
end Mn
/-! Mn10: targets, comprehensions. -/
namespace Mn
open L2 PyProof.Rows PySem.Spec PySem
/-! ### targets -/
mutual
def slots : Tg → List Nat
  | .n i => [i]
  | .t ts => slotss ts
def slotss : List Tg → List Nat
  | [] => []
  | t :: ts => slots t ++ slotss ts
end
/-- σ changed at the slots alone -/
def Out (vs : List Nat) (σ σ1 : Ls) : Prop := σ1.length = σ.length ∧ ∀ i : Nat, i ∉ vs → σ1[i]? = σ[i]?
theorem Out.trans {a b : List Nat} {σ σ1 σ2 : Ls} (h : Out a σ σ1) (h' : Out b σ1 σ2) : Out (a ++ b) σ σ2 :=
  ⟨h'.1.trans h.1, fun i hi => (h'.2 i fun z => hi (List.mem_append_right _ z)).trans (h.2 i fun z => hi (List.mem_append_left _ z))⟩
section
variable {X : Cx} {k : Ka} {W : WX} {g : Gs} {H : Hp} {σ : Ls} {L : Loc}
theorem RL.set (h : RL k g H σ L) {i : Nat} {v : V} {d : D} (r : RD k g H v d) : RL k g H (σ.set i (some v)) (setL L i d) := by
  refine ⟨by rw [List.length_set]; unfold setL; rw [List.length_set]; exact h.1, fun j e hj => ?_⟩
  unfold setL at hj
  by_cases hij : i = j
  · subst hij
    have hl : i < L.length := by
      have := (List.getElem?_eq_some_iff.mp hj).1
      rwa [List.length_set] at this
    rw [List.getElem?_set_self hl] at hj
    have e1 : d = e := Option.some.inj (Option.some.inj hj)
    subst e1
    exact ⟨v, List.getElem?_set_self (by rw [h.1]; exact hl), r⟩
  · rw [List.getElem?_set_ne hij] at hj
    obtain ⟨v', e1, r'⟩ := h.2 j e hj
    exact ⟨v', by rw [List.getElem?_set_ne hij]; exact e1, r'⟩
theorem RL.wipe (h : RL k g H σ L) : ∀ vs : List Nat, RL k g H (L2.wipe σ vs) (wipeL L vs)
  | [] => h
  | v :: vs => by
    have ih := RL.wipe h vs
    unfold L2.wipe wipeL
    refine ⟨by rw [List.length_set, List.length_set]; exact ih.1, fun j e hj => ?_⟩
    by_cases hij : v = j
    · subst hij
      have hl := (List.getElem?_eq_some_iff.mp hj).1
      rw [List.length_set] at hl
      rw [List.getElem?_set_self hl] at hj
      cases hj
    · rw [List.getElem?_set_ne hij] at hj
      obtain ⟨v', e1, r'⟩ := ih.2 j e hj
      exact ⟨v', by rw [List.getElem?_set_ne hij]; exact e1, r'⟩
def rdG (k : Ka) (tg : Tg) : TG := fun v σ H Q => ∃ g L d L1, RL k g H σ L ∧ RD k g H v d ∧ asg tg d L = some L1 ∧ ∀ σ1, RL k g H σ1 L1 → Out (slots tg) σ σ1 → Q σ1 H
def rdGs (k : Ka) (ts : List Tg) : TGs := fun vs σ H Q => ∃ g L ps L1, RL k g H σ L ∧ RPs k g H vs ps ∧ asgs ts ps L = some L1 ∧ ∀ σ1, RL k g H σ1 L1 → Out (slotss ts) σ σ1 → Q σ1 H
theorem PG.imp {e : Expr} {t t' : TG} (h : PG X e t') (i : ∀ v σ H Q, t v σ H Q → t' v σ H Q) : PG X e t := ⟨fun pins s σ H v u Q I r q => h.run pins s σ H v u Q I r (i v σ H Q q)⟩
theorem PGs.imp {e : List Expr} {t t' : TGs} (h : PGs X e t') (i : ∀ v σ H Q, t v σ H Q → t' v σ H Q) : PGs X e t := ⟨fun pins s σ H v u Q I r q => h.run pins s σ H v u Q I r (i v σ H Q q)⟩
theorem sg_name {i : Nat} {x : Str} {pos : Pos} (hN : X.N.Nodup) (hi : X.N[i]? = some x) (hx : L2.Loc X.env.scope x) (hf : X.fn x = true ∨ X.env.scope.names.lookup x = some .local) : PG X (.Name x pos) (rdG k (.n i)) := by
  refine PG.imp (pg_name hN hi hx hf) fun v σ H Q h => ?_
  obtain ⟨g, L, d, L1, rl, rd, e, q⟩ := h
  unfold asg at e
  split at e
  · cases e
    exact q _ (rl.set rd) ⟨List.length_set .., fun j hj => List.getElem?_set_ne (fun z => hj (by unfold slots; simp [z]))⟩
  · cases e
theorem sg_nil : PGs X [] (rdGs k []) := by
  refine PGs.imp pgs_nil fun vs σ H Q h => ?_
  obtain ⟨g, L, ps, L1, rl, rp, e, q⟩ := h
  cases ps with
  | nil =>
    cases rp
    unfold asgs at e
    cases e
    exact ⟨rfl, q σ rl ⟨rfl, fun _ _ => rfl⟩⟩
  | cons p ps => simp [asgs] at e
theorem sg_cons {e : Expr} {es : List Expr} {t : Tg} {ts : List Tg} (h1 : PG X e (rdG k t)) (h2 : PGs X es (rdGs k ts)) (hst : noStar e = true) : PGs X (e :: es) (rdGs k (t :: ts)) := by
  refine PGs.imp (pgs_cons h1 h2 (by cases e <;> first | rfl | cases hst)) fun vs σ H Q h => ?_
  obtain ⟨g, L, ps, L1, rl, rp, e, q⟩ := h
  cases ps with
  | nil => simp [asgs] at e
  | cons p ps =>
    cases rp with
    | cons r1 r2 =>
      unfold asgs at e
      obtain ⟨L2, e1, e2⟩ := Option.bind_eq_some_iff.mp e
      refine ⟨_, _, rfl, g, L, .p p, L2, rl, r1, e1, fun σ1 rl1 o1 => ⟨g, L2, ps, L1, rl1, r2, e2, fun σ2 rl2 o2 => q σ2 rl2 ?_⟩⟩
      unfold slotss
      exact o1.trans o2
theorem asgs_len : ∀ {ts : List Tg} {ps : List P} {L L1 : Loc}, asgs ts ps L = some L1 → ps.length = ts.length
  | [], [], _, _, _ => rfl
  | t :: ts, p :: ps, L, L1, e => by
    unfold asgs at e
    obtain ⟨L2, _, e2⟩ := Option.bind_eq_some_iff.mp e
    exact congrArg (· + 1) (asgs_len e2)
  | [], _ :: _, _, _, e => by simp [asgs] at e
  | _ :: _, [], _, _, e => by simp [asgs] at e
theorem starN : ∀ {es : List Expr} (env : Env), es.all noStar = true → (assignEach es env).length = es.length ∧ (assignEach es env).findIdx? (·.1) = none
  | [], _, _ => ⟨rfl, rfl⟩
  | e :: es, env, h => by
    rw [List.all_cons, Bool.and_eq_true] at h
    obtain ⟨h1, h2⟩ := starN env h.2
    have e1 : assignEach (e :: es) env = (false, assign e env) :: assignEach es env := by
      have := h.1
      cases e <;> first | rfl | cases this
    rw [e1]
    refine ⟨congrArg (· + 1) h1, ?_⟩
    rw [List.findIdx?_cons]
    rw [h2]
    rfl
theorem sg_tup {es : List Expr} {ts : List Tg} {kt : Nat} {pos : Pos} (hK : X.K = k.K) (hc : X.calm = true) (hl : es.length = ts.length) (hst : es.all noStar = true) (h : PGs X es (rdGs k ts)) : PG X (.Tuple es kt pos) (rdG k (.t ts)) := by
  obtain ⟨s1, s2⟩ := starN X.env hst
  refine PG.imp (pg_tup hc h s1 s2) fun v σ H Q h => ?_
  obtain ⟨g, L, d, L1, rl, rd, e, q⟩ := h
  have hd : ∃ ps, d = .p (.tup ps) := by
    cases d with
    | ref n => simp [asg] at e
    | lam _ _ _ => simp [asg] at e
    | clo _ _ => simp [asg] at e
    | dead => simp [asg] at e
    | me => simp [asg] at e
    | lams _ _ => simp [asg] at e
    | p x => cases x <;> first | exact ⟨_, rfl⟩ | simp [asg] at e
  obtain ⟨ps, rfl⟩ := hd
  unfold asg at e
  cases (show RP k.toKg g H v (.tup ps) from rd) with
  | tup t r => exact ⟨_, _, rfl, by rw [hK]; exact t.sq, by rw [r.length, asgs_len e, hl], g, L, ps, L1, rl, r, e, q⟩
end

/-! ### comprehensions -/
section
variable {X : Cx} {k : Ka} {W : WX} {cal : Nat → List D → Sto → R D} {fr : Nat} {s : Ev}
def WN : WX := fun _ _ _ _ => False
theorem wipe_out {vs ws : List Nat} {σ σ1 : Ls} (h : Out ws (L2.wipe σ vs) σ1) (hs : ∀ i ∈ ws, i ∈ vs) : L2.wipe σ1 vs = L2.wipe σ vs := by
  apply List.ext_getElem?
  intro i
  have hl : (L2.wipe σ1 vs).length = (L2.wipe σ vs).length := by rw [wipe_length, h.1]
  by_cases hi : i ∈ vs
  · have no : ∀ τ : Ls, i < (L2.wipe τ vs).length → (L2.wipe τ vs)[i]? = some none := fun τ ht => by
      cases q : (L2.wipe τ vs)[i]? with
      | none => rw [List.getElem?_eq_none_iff] at q; omega
      | some o =>
        cases o with
        | none => rfl
        | some v => exact absurd hi (wipe_some q).2
    by_cases hb : i < (L2.wipe σ vs).length
    · rw [no σ hb, no σ1 (by rw [hl]; exact hb)]
    · rw [List.getElem?_eq_none (by rw [hl]; omega), List.getElem?_eq_none (by omega)]
  · have same : ∀ (τ : Ls) (us : List Nat), i ∉ us → (L2.wipe τ us)[i]? = τ[i]? := fun τ us hu => by
      induction us with
      | nil => rfl
      | cons u us ih =>
        unfold L2.wipe
        rw [List.getElem?_set_ne (fun z => hu (by simp [z]))]
        exact ih fun z => hu (List.mem_cons_of_mem _ z)
    rw [same σ1 vs hi, h.2 i fun z => hi (hs i z)]
theorem R.bind_assoc {α β γ : Type} (r : R α) (f : α → Sto → R β) (h : β → Sto → R γ) : (r.bind f).bind h = r.bind fun a S => (f a S).bind h := by
  cases r <;> rfl
theorem noEx_bk {α β : Type} {r : R α} {f : α → Sto → R β} {σ : Ls} {g : Gs} {H : Hp} {Q : β → Sto → Gs → Hp → Prop} (b : Bk k W σ g H ((noEx r).bind f) Q) : ∃ a S, r = .ok a S ∧ Bk k W σ g H (f a S) Q := by
  cases r with
  | ok a S => exact ⟨a, S, rfl, b⟩
  | ex _ _ => exact b.elim
  | bad => exact b.elim

/-! a new list, foreign while it is made -/
def Gs.sh (g : Gs) (p : Addr) : Gs := ⟨fun a => g.F a ∨ a = p, g.ρ⟩
def Gs.un (g : Gs) (F : Addr → Prop) : Gs := ⟨F, g.ρ⟩
theorem Gr.trans {g g1 g2 : Gs} {H H1 H2 : Hp} (x : Gr g H g1 H1) (y : Gr g1 H1 g2 H2) : Gr g H g2 H2 :=
  ⟨fun a o h t n => y.kp a o (x.kp a o h t n) t (x.notM a o h t n), fun a o h t n => y.notM a o (x.kp a o h t n) t (x.notM a o h t n), fun n a h => y.ref n a (x.ref n a h)⟩
theorem Gr.refl {g : Gs} {H : Hp} : Gr g H g H := ⟨fun _ _ h _ _ => h, fun _ _ _ _ n => n, fun _ _ h => h⟩
/-- the new list stands; nothing knows it -/
structure Mk (k : Ka) (g0 : Gs) (H0 : Hp) (p : Addr) (g : Gs) (H : Hp) (S : Sto) (acc : List V) (xs : List P) : Prop where
  nw : H0 p = none
  F : ∀ a, g.F a ↔ (g0.F a ∨ a = p)
  ext : Ext g0 H0 (g.un g0.F) H
  rs : RS k g H S
  at_ : H p = some (.lst acc)
  ac : RPs k g H acc xs
section
variable {g0 g : Gs} {H0 H : Hp} {p : Addr} {S : Sto} {acc : List V} {xs : List P}
theorem Mk.gr (m : Mk k g0 H0 p g H S acc xs) : Gr g0 H0 g H := by
  refine ⟨fun a o h t n => m.ext.at h t n, fun a o h _ n z => ?_, fun n a h => m.ext.ref h⟩
  rcases z with z | z
  · rcases (m.F a).mp z with z | z
    · exact n (.inl z)
    · rw [z, m.nw] at h; cases h
  · exact m.ext.notM h n (.inr z)
theorem Mk.start (rs : RS k g0 H0 S) (hp : H0 p = none) : Mk k g0 H0 p (g0.sh p) (upd H0 p (.lst [])) S [] [] := by
  have x : Ext g0 H0 g0 (upd H0 p (.lst [])) := Ext.laid rs hp _
  refine ⟨hp, fun a => Iff.rfl, ⟨rfl, ⟨[], by simp [Gs.sh, Gs.un], fun _ z => nomatch z⟩, x.keep, x.live⟩, ?_, upd_same, .nil⟩
  have np : ∀ a ∈ g0.ρ, a ≠ p := fun a ha z => by
    obtain ⟨_, _, _, _, _, e, _⟩ := rs.live ha
    rw [z, hp] at e; cases e
  refine ⟨rs.len, rs.nd, fun a z => ?_, fun a ha z => ?_, fun n a ds e1 e2 => ?_, rs.tabs.ext fun b u e => by rw [upd_ne (ne_of_none e hp)]; exact e, rs.pu⟩
  · rcases z with z | z
    · obtain ⟨o, e, m⟩ := rs.fl a z
      exact ⟨o, x.keep a o e (mT_nT m) (fun y => rs.dj a y z), m⟩
    · rw [z]; exact ⟨_, upd_same, trivial⟩
  · rcases z with z | z
    · exact rs.dj a ha z
    · exact np a ha z
  · obtain ⟨vs, h1, h2⟩ := rs.cell n a ds e1 e2
    have y : Gr g0 H0 (g0.sh p) (upd H0 p (.lst [])) := by
      refine ⟨fun b o h _ nm => by rw [upd_ne (ne_of_none h hp)]; exact h, fun b o h _ nm z => ?_, fun _ _ h => h⟩
      rcases z with (z | z) | z
      · exact nm (.inl z)
      · rw [z, hp] at h; cases h
      · exact nm (.inr z)
    exact ⟨vs, by rw [upd_ne (np a (List.mem_of_getElem? e1))]; exact h1, h2.gr y⟩
theorem Mk.notin (m : Mk k g0 H0 p g H S acc xs) : p ∉ g.ρ := fun z => m.rs.dj p z ((m.F p).mpr (.inr rfl))
/-- something else is done -/
theorem Mk.step (m : Mk k g0 H0 p g H S acc xs) {g1 : Gs} {H1 : Hp} {S1 : Sto} (x : Ext g H g1 H1) (rs : RS k g1 H1 S1) : Mk k g0 H0 p g1 H1 S1 acc xs := by
  refine ⟨m.nw, fun a => by rw [x.F]; exact m.F a, m.ext.trans ⟨rfl, x.pre, x.keep, x.live⟩, rs, x.keep p _ m.at_ trivial m.notin, m.ac.mono x⟩
theorem Mk.grown (m : Mk k g0 H0 p g H S acc xs) : Gr g H g (upd H p (.lst (acc ++ []))) := by
  refine ⟨fun a o h _ n => ?_, fun a o _ _ n => n, fun _ _ h => h⟩
  have : a ≠ p := fun z => n (.inl ((m.F a).mpr (.inr z)))
  rw [upd_ne this]; exact h
/-- it takes one more -/
theorem Mk.app (m : Mk k g0 H0 p g H S acc xs) {v : V} {x : P} (r : RP k g H v x) : Mk k g0 H0 p g (upd H p (.lst (acc ++ [v]))) S (acc ++ [v]) (xs ++ [x]) := by
  have y : Gr g H g (upd H p (.lst (acc ++ [v]))) := by
    refine ⟨fun a o h _ n => ?_, fun a o _ _ n => n, fun _ _ h => h⟩
    have : a ≠ p := fun z => n (.inl ((m.F a).mpr (.inr z)))
    rw [upd_ne this]; exact h
  refine ⟨m.nw, m.F, ?_, ?_, upd_same, (m.ac.gr y).append (.cons (r.gr y) .nil)⟩
  · refine ⟨rfl, m.ext.pre, fun a o h t n => ?_, fun a o h => ?_⟩
    · rw [upd_ne (ne_of_none h m.nw)]; exact m.ext.keep a o h t n
    · rw [upd_ne (ne_of_none h m.nw)]; exact m.ext.live a o h
  · refine ⟨m.rs.len, m.rs.nd, fun a z => ?_, m.rs.dj, fun n a ds e1 e2 => ?_, tabs_same m.rs.tabs fun b u h1 h2 => ?_, m.rs.pu⟩
    rotate_left 2
    · have nb : b ≠ p := fun z => by
        rw [z, m.at_] at h1
        cases h1
        exact h2 _ rfl
      rw [upd_ne nb]; exact h1
    · by_cases q : a = p
      · rw [q]; exact ⟨_, upd_same, trivial⟩
      · rw [upd_ne q]; exact m.rs.fl a z
    · obtain ⟨vs, h1, h2⟩ := m.rs.cell n a ds e1 e2
      have : a ≠ p := fun z => m.notin (z ▸ List.mem_of_getElem? e1)
      exact ⟨vs, by rw [upd_ne this]; exact h1, h2.gr y⟩
/-- it is done: data -/
theorem Mk.frz (m : Mk k g0 H0 p g H S acc xs) (r0 : RS k g0 H0 S1) : RS k (g.un g0.F) H S ∧ RD k (g.un g0.F) H (.ref p) (.p (.lst xs)) := by
  have y : Gr g H (g.un g0.F) H := ⟨fun _ _ h _ _ => h, fun a o _ _ n z => n (z.imp (fun q => (m.F a).mpr (.inl q)) id), fun _ _ h => h⟩
  have np : ¬ g0.F p := fun z => by
    obtain ⟨o, e, _⟩ := r0.fl p z
    rw [m.nw] at e; cases e
  refine ⟨⟨m.rs.len, m.rs.nd, fun a z => m.rs.fl a ((m.F a).mpr (.inl z)), fun a ha z => m.rs.dj a ha ((m.F a).mpr (.inl z)), fun n a ds e1 e2 => ?_, m.rs.tabs, m.rs.pu⟩, RP.lst m.at_ (fun z => z.elim np m.notin) (m.ac.gr y)⟩
  obtain ⟨vs, h1, h2⟩ := m.rs.cell n a ds e1 e2
  exact ⟨vs, h1, h2.gr y⟩
/-- it is done: a cell -/
theorem Mk.own (m : Mk k g0 H0 p g H S acc xs) (r0 : RS k g0 H0 S1) : Ext g0 H0 ((g.un g0.F).add p) H ∧ RS k ((g.un g0.F).add p) H (S ++ [.lst (xs.map .p)]) ∧ RD k ((g.un g0.F).add p) H (.ref p) (.ref S.length) := by
  have np : ¬ g0.F p := fun z => by
    obtain ⟨o, e, _⟩ := r0.fl p z
    rw [m.nw] at e; cases e
  have y : Gr g H ((g.un g0.F).add p) H := by
    refine ⟨fun _ _ h _ _ => h, fun a o _ _ n z => ?_, fun n a h => ?_⟩
    · rcases z with z | z
      · exact n (.inl ((m.F a).mpr (.inl z)))
      · rcases List.mem_append.mp z with z | z
        · exact n (.inr z)
        · exact n (.inl ((m.F a).mpr (.inr (List.mem_singleton.mp z))))
    · show (g.ρ ++ [p])[n]? = some a
      rw [List.getElem?_append_left (List.getElem?_eq_some_iff.mp h).1]; exact h
  obtain ⟨t, e, ht⟩ := m.ext.pre
  have e : g.ρ = g0.ρ ++ t := e
  refine ⟨⟨rfl, ⟨t ++ [p], ?_, fun q z => ?_⟩, m.ext.keep, m.ext.live⟩, ⟨?_, ?_, fun a z => m.rs.fl a ((m.F a).mpr (.inl z)), fun a ha z => ?_, fun n a ds e1 e2 => ?_, m.rs.tabs, pu_app m.rs.pu (by
    rw [List.all_map]
    exact List.all_eq_true.mpr fun _ _ => rfl)⟩, p, rfl, ?_⟩
  · show g.ρ ++ [p] = g0.ρ ++ (t ++ [p])
    rw [e, List.append_assoc]
  · rcases List.mem_append.mp z with z | z
    · exact ht q z
    · rw [List.mem_singleton.mp z]; exact m.nw
  · show (g.ρ ++ [p]).length = (S ++ [MO.lst (xs.map D.p)]).length
    rw [List.length_append, List.length_append, m.rs.len]; rfl
  · show (g.ρ ++ [p]).Nodup
    rw [List.nodup_append]
    refine ⟨m.rs.nd, by simp, fun a ha b hb z => ?_⟩
    rw [List.mem_singleton.mp hb] at z
    exact m.notin (z ▸ ha)
  · rcases List.mem_append.mp ha with q | q
    · exact m.rs.dj a q ((m.F a).mpr (.inl z))
    · rw [List.mem_singleton.mp q] at z
      exact np z
  · have e1 : (g.ρ ++ [p])[n]? = some a := e1
    by_cases hn : n < g.ρ.length
    · rw [List.getElem?_append_left hn] at e1
      rw [List.getElem?_append_left (by rw [← m.rs.len]; exact hn)] at e2
      obtain ⟨ws, h1, h2⟩ := m.rs.cell n a ds e1 e2
      exact ⟨ws, h1, h2.gr y⟩
    · have hn' : n = g.ρ.length := by
        have := (List.getElem?_eq_some_iff.mp e1).1
        rw [List.length_append] at this
        have h1 : ([p] : List Addr).length = 1 := rfl
        omega
      subst hn'
      rw [List.getElem?_append_right (Nat.le_refl _)] at e1
      rw [m.rs.len, List.getElem?_append_right (Nat.le_refl _)] at e2
      simp at e1 e2
      subst e1 e2
      exact ⟨acc, m.at_, (m.ac.gr y).toD⟩
  · show (g.ρ ++ [p])[S.length]? = some p
    rw [← m.rs.len, List.getElem?_append_right (Nat.le_refl _)]
    simp
end

/-! an object under way, foreign while it is made -/
structure Sh (k : Ka) (g0 : Gs) (H0 : Hp) (p : Addr) (g : Gs) (H : Hp) (S : Sto) (o : HO) : Prop where
  nw : H0 p = none
  F : ∀ a, g.F a ↔ (g0.F a ∨ a = p)
  ext : Ext g0 H0 (g.un g0.F) H
  rs : RS k g H S
  at_ : H p = some o
section
variable {g0 g : Gs} {H0 H : Hp} {p : Addr} {S : Sto} {o o' : HO}
theorem Sh.gr (m : Sh k g0 H0 p g H S o) : Gr g0 H0 g H := by
  refine ⟨fun a u h t n => m.ext.at h t n, fun a u h _ n z => ?_, fun n a h => m.ext.ref h⟩
  rcases z with z | z
  · rcases (m.F a).mp z with z | z
    · exact n (.inl z)
    · rw [z, m.nw] at h; cases h
  · exact m.ext.notM h n (.inr z)
theorem Sh.start (rs : RS k g0 H0 S) (hp : H0 p = none) (mo : mT o) : Sh k g0 H0 p (g0.sh p) (upd H0 p o) S o := by
  have x : Ext g0 H0 g0 (upd H0 p o) := Ext.laid rs hp _
  refine ⟨hp, fun a => Iff.rfl, ⟨rfl, ⟨[], by simp [Gs.sh, Gs.un], fun _ z => nomatch z⟩, x.keep, x.live⟩, ?_, upd_same⟩
  have np : ∀ a ∈ g0.ρ, a ≠ p := fun a ha z => by
    obtain ⟨_, _, _, _, _, e, _⟩ := rs.live ha
    rw [z, hp] at e; cases e
  have y : Gr g0 H0 (g0.sh p) (upd H0 p o) := by
    refine ⟨fun b u h _ nm => by rw [upd_ne (ne_of_none h hp)]; exact h, fun b u h _ nm z => ?_, fun _ _ h => h⟩
    rcases z with (z | z) | z
    · exact nm (.inl z)
    · rw [z, hp] at h; cases h
    · exact nm (.inr z)
  refine ⟨rs.len, rs.nd, fun a z => ?_, fun a ha z => ?_, fun n a ds e1 e2 => ?_, rs.tabs.ext fun b u e => by rw [upd_ne (ne_of_none e hp)]; exact e, rs.pu⟩
  · rcases z with z | z
    · obtain ⟨u, e, m⟩ := rs.fl a z
      exact ⟨u, x.keep a u e (mT_nT m) (fun y => rs.dj a y z), m⟩
    · rw [z]; exact ⟨_, upd_same, mo⟩
  · rcases z with z | z
    · exact rs.dj a ha z
    · exact np a ha z
  · obtain ⟨vs, h1, h2⟩ := rs.cell n a ds e1 e2
    exact ⟨vs, by rw [upd_ne (np a (List.mem_of_getElem? e1))]; exact h1, h2.gr y⟩
theorem Sh.notin (m : Sh k g0 H0 p g H S o) : p ∉ g.ρ := fun z => m.rs.dj p z ((m.F p).mpr (.inr rfl))
theorem Sh.step (m : Sh k g0 H0 p g H S o) (no : nT o) {g1 : Gs} {H1 : Hp} {S1 : Sto} (x : Ext g H g1 H1) (rs : RS k g1 H1 S1) : Sh k g0 H0 p g1 H1 S1 o :=
  ⟨m.nw, fun a => by rw [x.F]; exact m.F a, m.ext.trans ⟨rfl, x.pre, x.keep, x.live⟩, rs, x.keep p _ m.at_ no m.notin⟩
theorem tabs_mT {T : List (Addr × Str)} {H H1 : Hp} (t : LamX.Tabs T H) (e : ∀ b o, H b = some o → ¬ mT o → H1 b = some o) : LamX.Tabs T H1 := fun p hp => by
  obtain ⟨ps, h1, h2, h3⟩ := t p hp
  refine ⟨ps, e _ _ h1 (fun z => z), h2, fun pos cv hc => ?_⟩
  obtain ⟨c, e1, e2⟩ := h3 pos cv hc
  exact ⟨c, e1, e _ _ e2 fun z => by
    unfold LamX.CodeO at z
    exact z⟩
/-- it is changed -/
theorem Sh.put (m : Sh k g0 H0 p g H S o) (mo : mT o) (mo' : mT o') : Gr g H g (upd H p o') ∧ Sh k g0 H0 p g (upd H p o') S o' := by
  have y : Gr g H g (upd H p o') := by
    refine ⟨fun a u h _ n => ?_, fun a u _ _ n => n, fun _ _ h => h⟩
    have : a ≠ p := fun z => n (.inl ((m.F a).mpr (.inr z)))
    rw [upd_ne this]; exact h
  refine ⟨y, m.nw, m.F, ⟨rfl, m.ext.pre, fun a u h t n => ?_, fun a u h => ?_⟩, ⟨m.rs.len, m.rs.nd, fun a z => ?_, m.rs.dj, fun n a ds e1 e2 => ?_, tabs_mT m.rs.tabs fun b u h1 h2 => ?_, m.rs.pu⟩, upd_same⟩
  · rw [upd_ne (ne_of_none h m.nw)]; exact m.ext.keep a u h t n
  · rw [upd_ne (ne_of_none h m.nw)]; exact m.ext.live a u h
  · by_cases q : a = p
    · rw [q]; exact ⟨_, upd_same, mo'⟩
    · rw [upd_ne q]; exact m.rs.fl a z
  · obtain ⟨vs, h1, h2⟩ := m.rs.cell n a ds e1 e2
    have : a ≠ p := fun z => m.notin (z ▸ List.mem_of_getElem? e1)
    exact ⟨vs, by rw [upd_ne this]; exact h1, h2.gr y⟩
  · have nb : b ≠ p := fun z => by
      rw [z, m.at_] at h1
      cases h1
      exact h2 mo
    rw [upd_ne nb]; exact h1
/-- it stands: no more foreign -/
theorem Sh.done (m : Sh k g0 H0 p g H S o) (r0 : RS k g0 H0 S1) : RS k (g.un g0.F) H S ∧ Gr g H (g.un g0.F) H ∧ ¬ (g.un g0.F).M p := by
  have y : Gr g H (g.un g0.F) H := ⟨fun _ _ h _ _ => h, fun a o _ _ n z => n (z.imp (fun q => (m.F a).mpr (.inl q)) id), fun _ _ h => h⟩
  have np : ¬ g0.F p := fun z => by
    obtain ⟨o, e, _⟩ := r0.fl p z
    rw [m.nw] at e; cases e
  refine ⟨⟨m.rs.len, m.rs.nd, fun a z => m.rs.fl a ((m.F a).mpr (.inl z)), fun a ha z => m.rs.dj a ha ((m.F a).mpr (.inl z)), fun n a ds e1 e2 => ?_, m.rs.tabs, m.rs.pu⟩, y, fun z => z.elim np m.notin⟩
  obtain ⟨vs, h1, h2⟩ := m.rs.cell n a ds e1 e2
  exact ⟨vs, h1, h2.gr y⟩
/-- .. locked for good -/
theorem Sh.lock (m : Sh k g0 H0 p g H S o) (mo : mT o) (r0 : RS k g0 H0 S1) (od : Obj) (u : HO) : Ext g0 H0 (g.un g0.F) (upd H p (.frz od u)) ∧ RS k (g.un g0.F) (upd H p (.frz od u)) S ∧ Gr g H (g.un g0.F) (upd H p (.frz od u)) ∧ ¬ (g.un g0.F).M p := by
  have np : ¬ g0.F p := fun z => by
    obtain ⟨o, e, _⟩ := r0.fl p z
    rw [m.nw] at e; cases e
  have y : Gr g H (g.un g0.F) (upd H p (.frz od u)) := by
    refine ⟨fun a o h _ n => ?_, fun a o _ _ n z => n (z.imp (fun q => (m.F a).mpr (.inl q)) id), fun _ _ h => h⟩
    have : a ≠ p := fun z => n (.inl ((m.F a).mpr (.inr z)))
    rw [upd_ne this]; exact h
  refine ⟨⟨rfl, m.ext.pre, fun a o h t n => ?_, fun a o h => ?_⟩, ⟨m.rs.len, m.rs.nd, fun a z => ?_, fun a ha z => m.rs.dj a ha ((m.F a).mpr (.inl z)), fun n a ds e1 e2 => ?_, tabs_mT m.rs.tabs fun b u h1 h2 => ?_, m.rs.pu⟩, y, fun z => z.elim np m.notin⟩
  · rw [upd_ne (ne_of_none h m.nw)]; exact m.ext.keep a o h t n
  · rw [upd_ne (ne_of_none h m.nw)]; exact m.ext.live a o h
  · obtain ⟨o1, e1, e2⟩ := r0.fl a z
    exact ⟨o1, by rw [upd_ne (ne_of_none e1 m.nw)]; exact m.ext.keep a o1 e1 (mT_nT e2) (fun q => r0.dj a q z), e2⟩
  · obtain ⟨vs, h1, h2⟩ := m.rs.cell n a ds e1 e2
    have : a ≠ p := fun z => m.notin (z ▸ List.mem_of_getElem? e1)
    exact ⟨vs, by rw [upd_ne this]; exact h1, h2.gr y⟩
  · have nb : b ≠ p := fun z => by
      rw [z, m.at_] at h1
      cases h1
      exact h2 mo
    rw [upd_ne nb]; exact h1
end

theorem se_lc {own : Bool} {ow : List (Str × Nat)} {tg : Tg} {kk : Sk} {es : List E} {cond : Option E} {el : E} {elt tgE iter : Expr} {ifs : List Expr} {scope : Scope} {pos : Pos} {tt : TT}
    (hc : X.calm = true) (hN : X.N.Nodup) (hi : PI X tgE iter (rdI k W (walkE s kk es))) (ok : BlkOk X.N X.env.scope scope ow) (hsl : ∀ i ∈ slots tg, i ∈ ow.map (·.2)) (hsf : ∀ x, foldedSetIterable iter X.env x = pure x)
    (htt : tt = match cond with | none => tYes | some c => rdT k WN (s.t c))
    (hg : ∀ (s0 : Shared) (H : Hp) (C : Addr) (cl : List (Str × Addr)) (fp : List Addr), PG (X.blk s0 H scope (compEnvC scope cl C X.env) fp) tgE (rdG k tg))
    (ht : ∀ (s0 : Shared) (H : Hp) (C : Addr) (cl : List (Str × Addr)) (fp : List Addr), PTs (X.blk s0 H scope (compEnvC scope cl C X.env) fp) ifs tt)
    (he : ∀ (s0 : Shared) (H : Hp) (C : Addr) (cl : List (Str × Addr)) (fp : List Addr), PE (X.blk s0 H scope (compEnvC scope cl C X.env) fp) elt (rdE k WN (s.e el))) :
    ∀ (σ : Ls) (H : Hp) (Q : VK), rdE k W (evE cal fr s (.lc own (ow.map (·.2)) tg kk es cond el)) σ H Q → tLc (rdI k W (walkE s kk es)) (rdG k tg) tt (rdE k WN (s.e el)) (ow.map (·.2)) σ H Q := by
  intro σ H Q h
  obtain ⟨g, L, S, rl, rs, b⟩ := h
  generalize hvs : ow.map (·.2) = vs at *
  have b : Bk k W σ g H ((walkE s kk es L S).bind fun ps S2 => (noEx (lcP s (wipeL L vs) tg cond el ps S2)).bind fun xs S3 => if xs.length < line then (if own then (.ok (.ref S3.length) (S3 ++ [.lst (xs.map .p)]) : R D) else .ok (.p (.lst xs)) S3) else .bad) fun d _ g' H' => ∀ v, RD k g' H' v d → Q v H' := by
    unfold walkE
    rw [R.bind_assoc]
    exact b
  refine ⟨g, L, S, rl, rs, b.bind.imp fun ps S2 g1 H1 e1 rs1 b1 J wk Dd hD => ?_⟩
  obtain ⟨xs, S3, run, b2⟩ := noEx_bk b1
  have rl1 : RL k g1 H1 (L2.wipe σ vs) (wipeL L vs) := (rl.mono e1).wipe vs
  refine ⟨fun i m H' => m = ps.length - i ∧ i ≤ ps.length ∧ ∃ gs S' acc x0 ys, Mk k g1 H1 Dd gs H' S' acc x0 ∧ lcP s (wipeL L vs) tg cond el (ps.drop i) S' = .ok ys S3 ∧ xs = x0 ++ ys, ⟨_, rfl, Nat.zero_le _, g1.sh Dd, S2, [], [], xs, Mk.start rs1 hD, run, rfl⟩, ?_⟩
  rintro i m H2 ⟨rfl, hi, gs, S', acc, x0, ys, mk, lr, rfl⟩
  obtain ⟨w1, w2⟩ := wk gs H2 mk.gr
  by_cases hlt : i < ps.length
  · refine .inr ?_
    have ep : ps[i]? = some ps[i] := List.getElem?_eq_getElem hlt
    obtain ⟨go, yl⟩ := w1 i _ ep
    refine ⟨go, fun H3 => ∃ gs S' acc x0' ys', Mk k g1 H1 Dd gs H3 S' acc x0' ∧ lcP s (wipeL L vs) tg cond el (ps.drop (i + 1)) S' = .ok ys' S3 ∧ x0 ++ ys = x0' ++ ys',
      fun H3 q => ⟨ps.length - (i + 1), by omega, rfl, hlt, q⟩, fun x H3 y => ?_⟩
    obtain ⟨ext3, rs3, rp⟩ := yl x H3 S' mk.rs y
    have mk3 := mk.step ext3 rs3
    rw [List.drop_eq_getElem_cons hlt] at lr
    unfold lcP at lr
    cases ea : asg tg (.p ps[i]) (wipeL L vs) with
    | none => rw [ea] at lr; cases lr
    | some L1 =>
      rw [ea] at lr
      dsimp only at lr
      refine ⟨gs, wipeL L vs, .p ps[i], L1, rl1.gr mk3.gr, rp, ea, fun σ1 rl2 out => ⟨wipe_out out hsl, ?_⟩⟩
      -- behind the test
      have fin : ∀ (g4 : Gs) (H4 : Hp) (S4 : Sto) (bb : Bool), Mk k g1 H1 Dd g4 H4 S4 acc x0 → RL k g4 H4 σ1 L1 →
          (if bb = true then ((s.e el L1 S4).bind fun d S2 => match d with
            | .p x => (lcP s (wipeL L vs) tg cond el (ps.drop (i + 1)) S2).bind fun xs S3 => .ok (x :: xs) S3
            | _ => .bad : R (List P))
          else lcP s (wipeL L vs) tg cond el (ps.drop (i + 1)) S4) = .ok ys S3 →
          (if bb = true then rdE k WN (s.e el) σ1 H4 fun y H5 => ∃ acc, H5 Dd = some (.lst acc) ∧ acc.length < sizeLine ∧ ∃ gs S' acc' x0' ys', Mk k g1 H1 Dd gs (upd H5 Dd (.lst (acc ++ [y]))) S' acc' x0' ∧ lcP s (wipeL L vs) tg cond el (ps.drop (i + 1)) S' = .ok ys' S3 ∧ x0 ++ ys = x0' ++ ys'
          else ∃ gs S' acc x0' ys', Mk k g1 H1 Dd gs H4 S' acc x0' ∧ lcP s (wipeL L vs) tg cond el (ps.drop (i + 1)) S' = .ok ys' S3 ∧ x0 ++ ys = x0' ++ ys') := by
        intro g4 H4 S4 bb mk4 rl4 run4
        cases bb with
        | false =>
          rw [if_neg Bool.false_ne_true] at run4 ⊢
          exact ⟨g4, S4, acc, x0, ys, mk4, run4, rfl⟩
        | true =>
          rw [if_pos rfl] at run4 ⊢
          obtain ⟨d, S5, r5, run5⟩ := R.bind_ok run4
          cases d with
          | ref n => cases run5
          | lam _ _ _ => cases run5
          | clo _ _ => cases run5
          | dead => cases run5
          | me => cases run5
          | lams _ _ => cases run5
          | p z =>
            obtain ⟨zs, S6, r6, run6⟩ := R.bind_ok run5
            cases run6
            refine ⟨g4, L1, S4, rl4, mk4.rs, ?_⟩
            rw [r5]
            intro g5 H5 e5 rs5 v rv
            have mk5 := mk4.step e5 rs5
            refine ⟨acc, mk5.at_, ?_, g5, S5, acc ++ [v], x0 ++ [z], zs, mk5.app rv, r6, by rw [List.append_assoc]; rfl⟩
            have hl := mk5.ac.length
            have hl2 : (x0 ++ z :: zs).length < line := by
              by_cases hx : (x0 ++ z :: zs).length < line
              · exact hx
              · rw [if_neg hx] at b2; exact b2.elim
            rw [List.length_append] at hl2
            rw [← line_eq, hl]
            have : (z :: zs).length = zs.length + 1 := rfl
            omega
      cases cond with
      | none =>
        subst htt
        exact fin gs H3 S' true mk3 rl2 lr
      | some c =>
        subst htt
        obtain ⟨bb, S4, r4, run4⟩ := R.bind_ok lr
        refine ⟨gs, L1, S', rl2, rs3, ?_⟩
        dsimp only at r4
        rw [r4]
        intro g4 H4 e4 rs4
        exact fin g4 H4 S4 bb (mk3.step e4 rs4) (rl2.mono e4) run4
  · have e : i = ps.length := by omega
    subst e
    refine .inl ⟨w2 _ (Nat.le_refl _), ?_⟩
    rw [List.drop_length] at lr
    unfold lcP at lr
    cases lr
    rw [List.append_nil] at b2
    split at b2
    · split at b2
      · obtain ⟨q1, q2, q3⟩ := mk.own rs1
        exact b2 _ _ q1 q2 _ q3
      · obtain ⟨q1, q2⟩ := mk.frz rs1
        exact b2 _ _ mk.ext q1 _ q2
    · exact b2.elim
end
end Mn
/-! Mn11: statements. -/
namespace Mn
open L2 PyProof.Rows PySem.Spec PySem
def Bf (k : Ka) (W : WX) (g : Gs) (H : Hp) : Fl → Ends → Prop
  | .nx L S, Dn => ∀ g' H' σ', Ext g H g' H' → RS k g' H' S → RL k g' H' σ' L → Dn.nx σ' H'
  | .rt d S, Dn => ∀ g' H' v, Ext g H g' H' → RS k g' H' S → RD k g' H' v d → Dn.rt v H'
  | .bk L S, Dn => ∀ g' H' σ', Ext g H g' H' → RS k g' H' S → RL k g' H' σ' L → Dn.bk σ' H'
  | .ct L S, Dn => ∀ g' H' σ', Ext g H g' H' → RS k g' H' S → RL k g' H' σ' L → Dn.ct σ' H'
  | .ex x L S, _ => ∀ g' H' σ' cls dd, Ext g H g' H' → RS k g' H' S → RL k g' H' σ' L → RX k g' H' x cls dd → W cls dd σ' H'
  | .bad, _ => False
def rdS (k : Ka) (W : WX) (f : Loc → Sto → Fl) : TS := fun Dn σ H => ∃ g L S, RL k g H σ L ∧ RS k g H S ∧ Bf k W g H (f L S) Dn
section
variable {X : Cx} {k : Ka} {W : WX} {cal : Nat → List D → Sto → R D} {fr : Nat} {s : Ev} {rs : Option (Nat → P → Option Ex)} {su : Nat → Nat → Option Bool} {g g1 : Gs} {H H1 : Hp} {Dn : Ends} {σ : Ls}
theorem Bf.mono {r : Fl} (h : Bf k W g H r Dn) (x : Ext g H g1 H1) : Bf k W g1 H1 r Dn := by
  cases r with
  | nx L S => exact fun g' H' σ' y => h g' H' σ' (x.trans y)
  | rt L S => exact fun g' H' σ' y => h g' H' σ' (x.trans y)
  | bk L S => exact fun g' H' σ' y => h g' H' σ' (x.trans y)
  | ct L S => exact fun g' H' σ' y => h g' H' σ' (x.trans y)
  | ex z L S => exact fun g' H' σ' cls dd y => h g' H' σ' cls dd (x.trans y)
  | bad => exact h
theorem Bf.fl {α : Type} {L : Loc} {r : R α} {f : α → Sto → Fl} (rl : RL k g H σ L) (h : Bf k W g H (R.fl L r f) Dn) : Bk k W σ g H r fun a S g' H' => Bf k W g' H' (f a S) Dn := by
  cases r with
  | ok a S => exact fun g' H' y _ => Bf.mono (show Bf k W g H (f a S) Dn from h) y
  | ex x S => exact fun g' H' cls dd y rs' rx => h g' H' σ cls dd y rs' (rl.mono y) rx
  | bad => exact h
theorem Bf.then {r : Fl} {f : Loc → Sto → Fl} (h : Bf k W g H (r.then f) Dn) : Bf k W g H r { Dn with nx := rdS k W f Dn } := by
  cases r with
  | nx L S => exact fun g' H' σ' y rs' rl => ⟨g', L, S, rl, rs', Bf.mono (show Bf k W g H (f L S) Dn from h) y⟩
  | rt L S => exact h
  | bk L S => exact h
  | ct L S => exact h
  | ex z L S => exact h
  | bad => exact h
theorem Bf.now {L : Loc} {S : Sto} (h : Bf k W g H (.nx L S) Dn) (rs' : RS k g H S) (rl : RL k g H σ L) : Dn.nx σ H := h g H σ .refl rs' rl

/-! ### one after the other -/
theorem ss_nil : PSs X [] (rdS k W (evCs s rs su [])) := PSs.imp pss_nil fun Dn σ H h => by
  obtain ⟨g, L, S, rl, rs', b⟩ := h
  exact b.now rs' rl
theorem ss_cons {st : Stmt} {sts : List Stmt} {c : C} {cs : List C} (h1 : PS X st (rdS k W (evC s rs su c))) (h2 : PSs X sts (rdS k W (evCs s rs su cs))) : PSs X (st :: sts) (rdS k W (evCs s rs su (c :: cs))) :=
  PSs.imp (pss_cons h1 h2) fun Dn σ H h => by
    obtain ⟨g, L, S, rl, rs', b⟩ := h
    exact ⟨g, L, S, rl, rs', b.then⟩
theorem ss_bad {st : Stmt} : PS X st (rdS k W (evC s rs su .bad)) := PS.imp ps_never fun Dn σ H h => by
  obtain ⟨g, L, S, rl, rs', b⟩ := h
  exact b
theorem ss_pass {pos : Pos} : PS X (.Pass pos) (rdS k W (evC s rs su .pass)) := PS.imp ps_pass fun Dn σ H h => by
  obtain ⟨g, L, S, rl, rs', b⟩ := h
  exact b.now rs' rl
theorem ss_brk {pos : Pos} : PS X (.Break pos) (rdS k W (evC s rs su .brk)) := PS.imp ps_break fun Dn σ H h => by
  obtain ⟨g, L, S, rl, rs', b⟩ := h
  exact b g H σ .refl rs' rl
theorem ss_cont {pos : Pos} : PS X (.Continue pos) (rdS k W (evC s rs su .cont)) := PS.imp ps_continue fun Dn σ H h => by
  obtain ⟨g, L, S, rl, rs', b⟩ := h
  exact b g H σ .refl rs' rl
theorem ss_doc {x : Str} {j : Nat} {pos pos' : Pos} : PS X (.Expr (.Constant (.str x) j pos) pos') (rdS k W (evC s rs su .pass)) := PS.imp ps_doc fun Dn σ H h => by
  obtain ⟨g, L, S, rl, rs', b⟩ := h
  exact b.now rs' rl
theorem ss_retN {pos : Pos} : PS X (.Return none pos) (rdS k W (evC s rs su .retN)) := PS.imp ps_retN fun Dn σ H h => by
  obtain ⟨g, L, S, rl, rs', b⟩ := h
  exact b g H _ .refl rs' RP.non
theorem ss_ret {e : Expr} {e' : E} {pos : Pos} (he : PE X e (rdE k W (s.e e'))) : PS X (.Return (some e) pos) (rdS k W (evC s rs su (.ret e'))) := PS.imp (ps_ret he) fun Dn σ H h => by
  obtain ⟨g, L, S, rl, rs', b⟩ := h
  exact ⟨g, L, S, rl, rs', (Bf.fl rl b).imp fun d S1 g1 H1 e1 rs1 b1 v rv => b1 g1 H1 v .refl rs1 rv⟩
def isComp : Expr → Bool
  | .ListComp .. => true
  | .SetComp .. => true
  | .DictComp .. => true
  | _ => false
theorem sw_no {e : Expr} (h : isComp e = false) (t : Option Expr) (l : Nat) (env : Env) : swapsWith e t l env = pure false := by
  cases e <;> first | rfl | cases h
theorem ss_expr {e : Expr} {e' : E} {pos : Pos} (hs : isComp e = false) (he : PE X e (rdE k W (s.e e'))) : PS X (.Expr e pos) (rdS k W (evC s rs su (.expr e'))) := PS.imp (ps_expr he (sw_no hs _ _ _)) fun Dn σ H h => by
  obtain ⟨g, L, S, rl, rs', b⟩ := h
  refine ⟨g, L, S, rl, rs', (Bf.fl rl b).imp fun d S1 g1 H1 e1 rs1 b1 v rv => ?_⟩
  exact Bf.now b1 rs1 (rl.mono e1)
theorem set_in {i : Nat} {e' : E} (h : rdS k W (evC s rs su (.set i e')) Dn σ H) : rdE k W (s.e e') σ H fun x H1 => Dn.nx (σ.set i (some x)) H1 := by
  obtain ⟨g, L, S, rl, rs', b⟩ := h
  refine ⟨g, L, S, rl, rs', (Bf.fl rl b).imp fun d S1 g1 H1 e1 rs1 b1 v rv => ?_⟩
  split at b1
  · exact Bf.now b1 rs1 ((rl.mono e1).set rv)
  · exact b1.elim
theorem ss_set {i : Nat} {x : Str} {e : Expr} {e' : E} {p pos : Pos} (hN : X.N.Nodup) (hi : X.N[i]? = some x) (hx : L2.Loc X.env.scope x) (hf : X.fn x = true ∨ X.env.scope.names.lookup x = some .local) (hs : swapsWith e (some (.Name x p)) pos.line X.env = pure false)
    (he : PE X e (rdE k W (s.e e'))) : PS X (.Assign [.Name x p] e pos) (rdS k W (evC s rs su (.set i e'))) :=
  PS.imp (ps_set hN hi hx he hs hf) fun _ _ _ h => set_in h
theorem ss_unp {tg : Tg} {tgE e : Expr} {e' : E} {pos : Pos} (hs : swapsWithSole [tgE] e pos.line X.env = pure false) (hw : swappedStores [tgE] e X.env = pure none) (h1 : (assignEach [tgE] X.env).map (·.2) = [assign tgE X.env])
    (he : PE X e (rdE k W (s.e e'))) (hg : PG X tgE (rdG k tg)) : PS X (.Assign [tgE] e pos) (rdS k W (evC s rs su (.unp tg e'))) :=
  PS.imp (ps_asg he hg hs hw h1) fun Dn σ H h => by
    obtain ⟨g, L, S, rl, rs', b⟩ := h
    refine ⟨g, L, S, rl, rs', (Bf.fl rl b).imp fun d S1 g1 H1 e1 rs1 b1 v rv => ?_⟩
    split at b1
    · rename_i L1 ea
      exact ⟨g1, L, d, L1, rl.mono e1, rv, ea, fun σ1 rl1 _ => Bf.now b1 rs1 rl1⟩
    · exact b1.elim
theorem setN_nx {is : List Nat} {ds : List D} {L : Loc} {S : Sto} (b : Bf k W g H (match setN is ds L with | some L1 => .nx L1 S | none => .bad) Dn) : ∃ L1, setN is ds L = some L1 ∧ Bf k W g H (.nx L1 S) Dn := by
  split at b
  · exact ⟨_, by assumption, b⟩
  · exact b.elim
theorem setN_cons {i : Nat} {is : List Nat} {ds : List D} {L L1 : Loc} (h : setN (i :: is) ds L = some L1) : ∃ d r, ds = d :: r ∧ i < L.length ∧ setN is r (setL L i d) = some L1 := by
  cases ds with
  | nil => simp [setN] at h
  | cons d r =>
    unfold setN at h
    split at h
    · exact ⟨d, r, rfl, by assumption, h⟩
    · cases h
theorem setN_nil {ds : List D} {L L1 : Loc} (h : setN [] ds L = some L1) : ds = [] ∧ L1 = L := by
  cases ds with
  | nil =>
    unfold setN at h
    cases h
    exact ⟨rfl, rfl⟩
  | cons d r => simp [setN] at h
theorem ss_par {i j : Nat} {x y : Str} {a b : Expr} {es : List E} {px py pt pos : Pos} {kt k2 pt2} (hc : X.calm = true) (hN : X.N.Nodup) (hi : X.N[i]? = some x) (hj : X.N[j]? = some y) (hij : i ≠ j)
    (hx : X.env.scope.names.lookup x = some .local) (hy : X.env.scope.names.lookup y = some .local) (ha : PA X [a, b] (rdA k W (evs s es)))
    (hw : swappedStores [.Tuple [.Name x px, .Name y py] kt pt] (.Tuple [a, b] k2 pt2) X.env = pure (some [x, y])) :
    PS X (.Assign [.Tuple [.Name x px, .Name y py] kt pt] (.Tuple [a, b] k2 pt2) pos) (rdS k W (evC s rs su (.setT [i, j] es))) :=
  PS.imp (ps_par hc hN hi hj hij hx hy ha hw rfl) fun Dn σ H h => by
    obtain ⟨g, L, S, rl, rs', b⟩ := h
    refine ⟨g, L, S, rl, rs', (Bf.fl rl b).imp fun ds S1 g1 H1 e1 rs1 b1 vs rv => ?_⟩
    have rl1 := rl.mono e1
    obtain ⟨L1, e, b2⟩ := setN_nx b1
    obtain ⟨d1, r1, rfl, _, e⟩ := setN_cons e
    obtain ⟨d2, r2, rfl, _, e⟩ := setN_cons e
    obtain ⟨rfl, rfl⟩ := setN_nil e
    cases rv with
    | cons q1 rv =>
      cases rv with
      | cons q2 rv =>
        cases rv
        exact ⟨_, _, rfl, Bf.now b2 rs1 ((rl1.set q1).set q2)⟩
theorem ss_par3 {i j l : Nat} {x y z : Str} {a b c : Expr} {es : List E} {px py pz pt pos : Pos} {kt k2 pt2} (hc : X.calm = true) (hN : X.N.Nodup) (hi : X.N[i]? = some x) (hj : X.N[j]? = some y) (hl : X.N[l]? = some z) (hij : i ≠ j) (hil : i ≠ l) (hjl : j ≠ l)
    (hx : X.env.scope.names.lookup x = some .local) (hy : X.env.scope.names.lookup y = some .local) (hz : X.env.scope.names.lookup z = some .local) (ha : PA X [a, b, c] (rdA k W (evs s es)))
    (hw : swappedStores [.Tuple [.Name x px, .Name y py, .Name z pz] kt pt] (.Tuple [a, b, c] k2 pt2) X.env = pure (some [x, y, z])) :
    PS X (.Assign [.Tuple [.Name x px, .Name y py, .Name z pz] kt pt] (.Tuple [a, b, c] k2 pt2) pos) (rdS k W (evC s rs su (.setT [i, j, l] es))) :=
  PS.imp (ps_par3 hc hN hi hj hl hij hil hjl hx hy hz ha hw rfl) fun Dn σ H h => by
    obtain ⟨g, L, S, rl, rs', b⟩ := h
    refine ⟨g, L, S, rl, rs', (Bf.fl rl b).imp fun ds S1 g1 H1 e1 rs1 b1 vs rv => ?_⟩
    have rl1 := rl.mono e1
    obtain ⟨L1, e, b2⟩ := setN_nx b1
    obtain ⟨d1, r1, rfl, _, e⟩ := setN_cons e
    obtain ⟨d2, r2, rfl, _, e⟩ := setN_cons e
    obtain ⟨d3, r3, rfl, _, e⟩ := setN_cons e
    obtain ⟨rfl, rfl⟩ := setN_nil e
    cases rv with
    | cons q1 rv =>
      cases rv with
      | cons q2 rv =>
        cases rv with
        | cons q3 rv =>
          cases rv
          exact ⟨_, _, _, rfl, Bf.now b2 rs1 (((rl1.set q1).set q2).set q3)⟩
theorem all_set {d : D} (hd : putD d = true) : ∀ {ds : List D} {j : Nat}, ds.all putD = true → (ds.set j d).all putD = true
  | [], _, h => h
  | e :: ds, 0, h => by
    rw [List.all_cons, Bool.and_eq_true] at h
    show (d :: ds).all putD = true
    rw [List.all_cons, hd, h.2]; rfl
  | e :: ds, j + 1, h => by
    rw [List.all_cons, Bool.and_eq_true] at h
    show (e :: ds.set j d).all putD = true
    rw [List.all_cons, h.1, all_set hd h.2]; rfl
/-! ### lists that change -/
theorem ss_setIx {o i e : Expr} {o' i' e' : E} {p pos : Pos} (hsl : noSlice i = true) (hs : swapsWithSole [.Subscript o i p] e pos.line X.env = pure false) (he : PE X e (rdE k W (s.e e'))) (ho : PE X o (rdE k W (s.e o'))) (hi : PE X i (rdE k W (s.e i'))) :
    PS X (.Assign [.Subscript o i p] e pos) (rdS k W (evC s rs su (.setIx o' i' e'))) := by
  have pg := pg_sub (pos := p) ho hi set_list (by
    intro v
    cases i <;> first | rfl | cases hsl)
  refine PS.imp (ps_asg he pg hs (by cases e <;> rfl) rfl) fun Dn σ H h => ?_
  obtain ⟨g, L, S, rl, rs', b⟩ := h
  refine ⟨g, L, S, rl, rs', (Bf.fl rl b).imp fun d S1 g1 H1 e1 rs1 b1 v rv => ?_⟩
  have rl1 := rl.mono e1
  refine ⟨g1, L, S1, rl1, rs1, (Bf.fl rl1 b1).imp fun x S2 g2 H2 e2 rs2 b2 vx rx => ?_⟩
  have rl2 := rl1.mono e2
  refine ⟨g2, L, S2, rl2, rs2, (Bf.fl rl2 b2).imp fun y S3 g3 H3 e3 rs3 b3 vy ry => ?_⟩
  have rl3 := rl2.mono e3
  split at b3
  · rename_i n j
    split at b3
    · rename_i ds hds
      split at b3
      · rename_i q hq
        obtain ⟨a, rfl, ha⟩ := rx.mono e3
        cases (show RP k.toKg g3 H3 vy (.int j) from ry)
        obtain ⟨ws, h1, h2⟩ := rs3.cell n a ds ha hds
        have rv3 := rv.mono (e2.trans e3)
        refine ⟨a, ws, j, q, rfl, rfl, h1, by rw [h2.length]; exact hq, ?_⟩
        split at b3
        rotate_left
        · exact b3.elim
        rename_i hpd
        exact b3 g3 _ σ (Ext.cellSet (List.mem_of_getElem? ha) _) (rs3.cellSet ha (h2.set q rv3) (all_set hpd (rs3.pu _ _ hds))) (rl3.mono (Ext.cellSet (List.mem_of_getElem? ha) _))
      · exact b3.elim
    · exact b3.elim
  · exact b3.elim
theorem few_of {e : Expr} (h : noStar e = true) (pos : Pos) (env : Env) : ((backTo pos (starEach [e] env)).all (fun x => !x.1) && (backToKw pos (keywordEach [] env)).all (fun x => x.1.isSome)
      && decide ([e].length + ([] : List Keyword).length + (if ([] : List Keyword).isEmpty then 0 else 1) < 30)) = true := by
  rw [star_of h]
  rfl
def noCall : Expr → Bool
  | .Call .. => false
  | _ => true
theorem base_of {o : Expr} (h : noCall o = true) (x : Str) (env : Env) (wh : Sem Value) : attributeBase o x env wh = wh := by
  cases o <;> first | rfl | cases h
theorem ss_app {o e : Expr} {o' e' : E} {ap cp pos : Pos} (hK : X.K = k.K) (hnc : noCall o = true) (hst : noStar e = true) (hln : (ap.endLine == cp.line) = true) (ho : PE X o (rdE k W (s.e o'))) (he : PE X e (rdE k W (s.e e'))) :
    PS X (.Expr (.Call (.Attribute o "append" ap) [e] [] cp) pos) (rdS k W (evC s rs su (.app o' e'))) := by
  have pa := pa_cons he pa_nil (star_of hst [] X.env)
  refine PS.imp (ps_expr (pe_bm F.plainAttrs_list F.slot_list_append F.type_list_append mt_append ho pa (base_of hnc _ _ _) (few_of hst _ _) hln (star_of hst _ _) rfl) rfl) fun Dn σ H h => ?_
  obtain ⟨g, L, S, rl, rs', b⟩ := h
  refine ⟨g, L, S, rl, rs', (Bf.fl rl b).imp fun x S1 g1 H1 e1 rs1 b1 vx rx => ?_⟩
  have rl1 := rl.mono e1
  split at b1
  · rename_i n
    split at b1
    · rename_i m hm
      obtain ⟨ds0⟩ := m
      obtain ⟨a, rfl, ha⟩ := rx
      obtain ⟨ws0, h0, _⟩ := rs1.cell n a ds0 ha hm
      refine ⟨.inl ⟨rfl, ws0, .inl (.inl h0)⟩, ?_⟩
      refine ⟨g1, L, S1, rl1, rs1, (Bf.fl rl1 b1).imp fun d S2 g2 H2 e2 rs2 b2 vd rd => ?_⟩
      have rl2 := rl1.mono e2
      split at b2
      · rename_i ds hds
        split at b2
        · rename_i hl
          have ha2 := e2.ref ha
          obtain ⟨ws, h1, h2⟩ := rs2.cell n a ds ha2 hds
          refine ⟨a, ws, vd, rfl, rfl, h1, by rw [h2.length, ← line_eq]; exact Nat.le_of_ble_eq_true (Bool.and_eq_true_iff.mp hl).1, ?_⟩
          have x2 := Ext.cellSet (H := H2) (List.mem_of_getElem? ha2) (.lst (ws ++ [vd]))
          exact b2 g2 _ σ x2 (rs2.cellSet ha2 (h2.append (.cons rd .nil)) (by
            rw [List.all_append, rs2.pu _ _ hds]
            simpa using (Bool.and_eq_true_iff.mp hl).2)) (rl2.mono x2)
        · exact b2.elim
      · exact b2.elim
    · exact b1.elim
  · exact b1.elim

/-! ### if, for, while -/
theorem ss_ite {c : Expr} {c' : E} {a b : List Stmt} {a' b' : List C} {pos : Pos} (hc : PT X c (rdT k W (s.t c'))) (ha : PSs X a (rdS k W (s.c a'))) (hb : PSs X b (rdS k W (s.c b'))) : PS X (.If c a b pos) (rdS k W (evC s rs su (.ite c' a' b'))) :=
  PS.imp (ps_if hc ha hb) fun Dn σ H h => by
    obtain ⟨g, L, S, rl, rs', bk⟩ := h
    refine ⟨g, L, S, rl, rs', (Bf.fl rl bk).imp fun x S1 g1 H1 e1 rs1 b1 => ?_⟩
    cases x with
    | true => exact iteT ⟨g1, L, S1, rl.mono e1, rs1, b1⟩
    | false => exact iteF ⟨g1, L, S1, rl.mono e1, rs1, b1⟩
theorem ss_for {tgE iter : Expr} {tg : Tg} {kk : Sk} {es : List E} {b : List Stmt} {b' : List C} {pos : Pos} (hp : PassesOwn (model X.prog X.w) X.A X.env X.xe) (hc : X.calm = true) (hi : PI X tgE iter (rdI k W (walkE s kk es))) (hg : PG X tgE (rdG k tg))
    (hb : PSs X b (rdS k W (s.c b'))) (hs : ∀ x, foldedSetIterable iter X.env x = pure x) : PS X (.For tgE iter b [] pos) (rdS k W (evC s rs su (.fo tg kk es b'))) :=
  PS.imp (ps_for hp hc hi hg hb hs) fun Dn σ H h => by
    obtain ⟨g, L, S, rl, rs', bk⟩ := h
    refine ⟨g, L, S, rl, rs', (Bf.fl rl bk).imp fun ps S1 g1 H1 e1 rs1 b1 J wk => ?_⟩
    have rl1 := rl.mono e1
    refine ⟨fun i m σ2 H2 => m = ps.length - i ∧ i ≤ ps.length ∧ ∃ g2 L2 S2, Ext g1 H1 g2 H2 ∧ RL k g2 H2 σ2 L2 ∧ RS k g2 H2 S2 ∧ Bf k W g2 H2 (foP s tg b' (ps.drop i) L2 S2) Dn,
      ⟨_, rfl, Nat.zero_le _, g1, L, S1, .refl, rl1, rs1, b1⟩, ?_⟩
    rintro i m σ2 H2 ⟨rfl, hi, g2, L2, S2, x2, rl2, rs2, b2⟩
    obtain ⟨w1, w2⟩ := wk g2 H2 x2.gr
    by_cases hlt : i < ps.length
    · refine .inr ?_
      obtain ⟨go, yl⟩ := w1 i _ (List.getElem?_eq_getElem hlt)
      refine ⟨go, fun σ3 H3 => ∃ g3 L3 S3, Ext g1 H1 g3 H3 ∧ RL k g3 H3 σ3 L3 ∧ RS k g3 H3 S3 ∧ Bf k W g3 H3 (foP s tg b' (ps.drop (i + 1)) L3 S3) Dn,
        fun σ3 H3 q => ⟨ps.length - (i + 1), by omega, rfl, hlt, q⟩, fun v H3 y => ?_⟩
      obtain ⟨e3, rs3, rp⟩ := yl v H3 S2 rs2 y
      rw [List.drop_eq_getElem_cons hlt] at b2
      unfold foP at b2
      cases ea : asg tg (.p ps[i]) L2 with
      | none => rw [ea] at b2; exact b2.elim
      | some L3 =>
        rw [ea] at b2
        dsimp only at b2
        have b3 := b2.mono e3
        refine ⟨g2, L2, .p ps[i], L3, rl2.mono e3, rp, ea, fun σ3 rl3 _ => ⟨g2, L3, S2, rl3, rs3, ?_⟩⟩
        cases q : s.c b' L3 S2 with
        | nx L4 S4 =>
          rw [q] at b3
          exact fun g4 H4 σ4 e4 rs4 rl4 => ⟨g4, L4, S4, x2.trans (e3.trans e4), rl4, rs4, b3.mono e4⟩
        | ct L4 S4 =>
          rw [q] at b3
          exact fun g4 H4 σ4 e4 rs4 rl4 => ⟨g4, L4, S4, x2.trans (e3.trans e4), rl4, rs4, b3.mono e4⟩
        | bk L4 S4 =>
          rw [q] at b3
          exact fun g4 H4 σ4 e4 rs4 rl4 => b3 g4 H4 σ4 e4 rs4 rl4
        | rt d S4 => rw [q] at b3; exact b3
        | ex z L4 S4 => rw [q] at b3; exact b3
        | bad => rw [q] at b3; exact b3
    · have e : i = ps.length := by omega
      subst e
      rw [List.drop_length] at b2
      unfold foP at b2
      exact .inl ⟨w2 _ (Nat.le_refl _), b2.now rs2 rl2⟩
end
section
variable {X : Cx} {k : Ka} {W : WX} {G : Prog} {cal : Nat → List D → Sto → R D} {fr : Nat}
/-- at some level -/
def exT (k : Ka) (W : WX) (G : Prog) (cal : Nat → List D → Sto → R D) (fr : Nat) (e : E) : TT := fun σ H Q => ∃ n, rdT k W ((ev G cal fr n).t e) σ H Q
def exS (k : Ka) (W : WX) (G : Prog) (cal : Nat → List D → Sto → R D) (fr : Nat) (b : List C) : TS := fun Dn σ H => ∃ n, rdS k W ((ev G cal fr n).c b) Dn σ H
theorem ss_wh {c : Expr} {c' : E} {b : List Stmt} {b' : List C} {pos : Pos} (hp : PassesOwn (model X.prog X.w) X.A X.env X.xe) (hc : ∀ n, PT X c (rdT k W ((ev G cal fr n).t c'))) (hb : ∀ n, PSs X b (rdS k W ((ev G cal fr n).c b'))) (n : Nat) :
    PS X (.While c b [] pos) (rdS k W (evC (ev G cal fr n) (rsF G fr) G.su (.wh c' b'))) := by
  have pc : PT X c (exT k W G cal fr c') := ⟨fun pins s σ H Q I q => let ⟨n, q⟩ := q; (hc n).run pins s σ H Q I q⟩
  have pb : PSs X b (exS k W G cal fr b') := ⟨fun pins s σ H Dn I q => let ⟨n, q⟩ := q; (hb n).run pins s σ H Dn I q⟩
  refine PS.imp (ps_while hp pc pb) fun Dn σ H h => ?_
  refine ⟨fun m σ H => ∃ g L S, RL k g H σ L ∧ RS k g H S ∧ Bf k W g H (evC (ev G cal fr m) (rsF G fr) G.su (.wh c' b') L S) Dn, ⟨n, h⟩, ?_⟩
  rintro m σ1 H1 ⟨g1, L1, S1, rl1, rs1, b1⟩
  refine ⟨m, g1, L1, S1, rl1, rs1, (Bf.fl rl1 b1).imp fun t S2 g2 H2 e2 rs2 b2 => ?_⟩
  have rl2 := rl1.mono e2
  cases t with
  | false => exact iteF (b2.now rs2 rl2)
  | true =>
    refine iteT ?_
    have b2 : Bf k W g2 H2 (match (ev G cal fr m).c b' L1 S2 with
      | .nx L2 S2 => (ev G cal fr m).c [.wh c' b'] L2 S2
      | .ct L2 S2 => (ev G cal fr m).c [.wh c' b'] L2 S2
      | .bk L2 S2 => .nx L2 S2
      | r => r) Dn := b2
    refine ⟨fun σ' H' => ∃ m', m' < m ∧ ∃ g L S, RL k g H' σ' L ∧ RS k g H' S ∧ Bf k W g H' (evC (ev G cal fr m') (rsF G fr) G.su (.wh c' b') L S) Dn, fun σ' H' q => q, m, g2, L1, S2, rl2, rs2, ?_⟩
    have again : ∀ {g H L S}, Bf k W g H ((ev G cal fr m).c [.wh c' b'] L S) Dn → ∃ m', m' < m ∧ Bf k W g H (evC (ev G cal fr m') (rsF G fr) G.su (.wh c' b') L S) Dn := by
      intro g H L S q
      cases m with
      | zero => exact q.elim
      | succ m =>
        refine ⟨m, Nat.lt_succ_self _, ?_⟩
        have q : Bf k W g H ((evC (ev G cal fr m) (rsF G fr) G.su (.wh c' b') L S).then fun L1 S1 => .nx L1 S1) Dn := q
        cases z : evC (ev G cal fr m) (rsF G fr) G.su (.wh c' b') L S with
        | nx _ _ => rw [z] at q; exact q
        | ct _ _ => rw [z] at q; exact q
        | bk _ _ => rw [z] at q; exact q
        | rt _ _ => rw [z] at q; exact q
        | ex _ _ _ => rw [z] at q; exact q
        | bad => rw [z] at q; exact q
    cases q : (ev G cal fr m).c b' L1 S2 with
    | nx L3 S3 =>
      rw [q] at b2
      exact fun g' H' σ' e3 rs3 rl3 => let ⟨m', h1, h2⟩ := again (b2.mono e3); ⟨m', h1, g', L3, S3, rl3, rs3, h2⟩
    | ct L3 S3 =>
      rw [q] at b2
      exact fun g' H' σ' e3 rs3 rl3 => let ⟨m', h1, h2⟩ := again (b2.mono e3); ⟨m', h1, g', L3, S3, rl3, rs3, h2⟩
    | bk L3 S3 =>
      rw [q] at b2
      exact fun g' H' σ' e3 rs3 rl3 => b2 g' H' σ' e3 rs3 rl3
    | rt d S3 => rw [q] at b2; exact b2
    | ex z L3 S3 => rw [q] at b2; exact b2
    | bad => rw [q] at b2; exact b2
end
end Mn
/-! Mx1: own exceptions whose __init__ says super().__init__(..) and keeps its argument. -/
namespace Mn
open L2 PyProof.Rows PySem.Spec PySem
/-- what is known of a built-in exception class B: who makes it (nB), its __init__, its stores -/
structure InF (B ini : String) : Prop where
  row : Manifest.signature? ini = some ⟨.positional, "*", B, .self, [⟨"args", .varPos, false⟩]⟩
  kind : builtinKind ini = some .slot
  star : (B != "*") = true
  entry : entryFor table ini = some Builtin.«BaseException.__init__»
  plain : plainId ini = true
theorem InF.of {B nw ini : String} (F : ExcCallFacts B nw ini) : InF B ini := ⟨F.initRow, F.initKind, F.noStar, F.initEntry, F.init.plain⟩
structure BsF (B nB nw i0 ini : String) (bmN bmB : List Value) : Prop where
  nw : ExcBaseFacts nB nw i0 bmN
  inn : InF B ini
  st : StoreFacts B bmB "object.__setattr__" "object"
  kx : PySem.W.KxsFacts B ini
  hasN : bmB.contains (.type nB) = true
  noA : bmB.contains (.type "AttributeError") = false
  noN : bmB.contains (.type "NameError") = false
abbrev tlE : List Value := [.type "Exception", .type "BaseException", .type "object"]
abbrev ixMro : List Value := .type "IndexError" :: .type "LookupError" :: tlE
abbrev arMro : List Value := .type "ArithmeticError" :: tlE
abbrev luMro : List Value := .type "LookupError" :: tlE
abbrev ofMro : List Value := .type "OverflowError" :: .type "ArithmeticError" :: tlE
abbrev vaMro : List Value := .type "ValueError" :: tlE
abbrev keyMro : List Value := .type "KeyError" :: .type "LookupError" :: tlE
theorem bsIndex : BsF "IndexError" "IndexError" "IndexError.__new__" "IndexError.__init__" "IndexError.__init__" ixMro ixMro :=
  ⟨F.excBase_IndexError, .of F.excBase_IndexError.toExcCallFacts, F.store_IndexError, PySem.W.kxs_IndexError, by decide +kernel, by decide +kernel, by decide +kernel⟩
theorem bsArith : BsF "ArithmeticError" "ArithmeticError" "ArithmeticError.__new__" "ArithmeticError.__init__" "ArithmeticError.__init__" arMro arMro :=
  ⟨F.excBase_ArithmeticError, .of F.excBase_ArithmeticError.toExcCallFacts, F.store_ArithmeticError, PySem.W.kxs_ArithmeticError, by decide +kernel, by decide +kernel, by decide +kernel⟩
theorem bsLookup : BsF "LookupError" "LookupError" "LookupError.__new__" "LookupError.__init__" "LookupError.__init__" luMro luMro :=
  ⟨F.excBase_LookupError, .of F.excBase_LookupError.toExcCallFacts, F.store_LookupError, PySem.W.kxs_LookupError, by decide +kernel, by decide +kernel, by decide +kernel⟩
theorem bsOver : BsF "OverflowError" "OverflowError" "OverflowError.__new__" "OverflowError.__init__" "OverflowError.__init__" ofMro ofMro :=
  ⟨F.excBase_OverflowError, .of F.excBase_OverflowError.toExcCallFacts, F.store_OverflowError, PySem.W.kxs_OverflowError, by decide +kernel, by decide +kernel, by decide +kernel⟩
theorem bsValue : BsF "ValueError" "ValueError" "ValueError.__new__" "ValueError.__init__" "ValueError.__init__" vaMro vaMro :=
  ⟨F.excBase_ValueError, .of F.excBase_ValueError.toExcCallFacts, F.store_ValueError, PySem.W.kxs_ValueError, by decide +kernel, by decide +kernel, by decide +kernel⟩
theorem keyIn : InF "KeyError" "KeyError.__init__" where
  row := by
    kernel_rfl
  kind := by
    kernel_rfl
  star := by
    decide +kernel
  entry := by
    refine entryFor_alias (id' := "BaseException.__init__") ?_ ?_ ?_ ?_
    · rw [fastTable_eq_tree]
      kernel_rfl
    · first
        | rfl
        | kernel_rfl
        | decide +kernel
    · decide +kernel
    · rw [fastTable_eq_tree]
      kernel_rfl
  plain := by
    decide +kernel
theorem keyStore : StoreFacts "KeyError" keyMro "object.__setattr__" "object" where
  mro := by
    kernel_rfl
  slot := by
    refine Slot.of (owner := "object") (n := "__setattr__") ?_ ?_ ?_ ?_ ?_ ?_
    · rw [typeLookup_type, builtinLookup_eq_fast]
      kernel_rfl
    · decide +kernel
    · decide +kernel
    · decide +kernel
    · first
        | exact .inl (by decide +kernel)
        | exact .inr (by decide +kernel)
    · rw [isSubtype_type]
      kernel_rfl
  entry := F.store_IndexError.entry
  kind := by
    decide +kernel
  split := by
    decide +kernel
  hasOwner := by
    decide +kernel
  args := F.store_IndexError.args
  passes := by
    intro self
    kernel_rfl
theorem keyKx : PySem.W.KxsFacts "KeyError" "KeyError.__init__" := by
  refine ⟨?_, ?_⟩
  · show builtinType _ = _
    rw [builtinType_eq_fast]
    kernel_rfl
  · first
      | kernel_rfl
      | rfl
theorem bsKey : BsF "KeyError" "LookupError" "LookupError.__new__" "LookupError.__init__" "KeyError.__init__" luMro keyMro :=
  ⟨F.excBase_LookupError, keyIn, keyStore, keyKx, by decide +kernel, by decide +kernel, by decide +kernel⟩
section
variable {M : Model} {A : Around} {E : Value → Shared → Prop} {h : Heap} {g : Array GenState} {d : Drawn} {t : Nat} {os : OsState}
variable {nm q : Str} {C N : Addr} {bs bm bmN : List Value} {hdct : Bool} {sn : List Str} {sub : List Value} {ab : Bool} {col : Option Bool} {dd : Option Addr} {k0 k1 k2 k3 k5 : Option Value} {B nB nw i0 ini : String}
abbrev exC (nm q : Str) (C N : Addr) (bs bm : List Value) (hdct : Bool) (sn : List Str) (sub : List Value) (ab : Bool) (col : Option Bool) (dd : Option Addr) (k0 k1 k2 k3 k5 : Option Value) (nw : String) : Obj := excClassObj nm q C N bs bm hdct sn sub ab col dd k0 k1 k2 k3 k5 nw
theorem has_cons {bm : List Value} {C : Addr} {X : String} {b : Bool} (h : bm.contains (.type X) = b) : (Value.ref C :: bm).contains (.type X) = b := by
  rw [List.contains_cons, h]
  rfl
theorem sup_check (F : ExcBaseFacts nB nw i0 bmN) (hN : bm.contains (.type nB) = true) {rest : List Value} {Q : Unit → Shared → Prop} (hC : h.get? C = some (exC nm q C N bs bm hdct sn sub ab col dd k0 k1 k2 k3 k5 nw)) (hq : Q () ⟨h, g, d, t, os⟩) :
    wpAny M A (checkBuiltinCall nw ⟨.ref C :: rest, []⟩) Q E ⟨h, g, d, t, os⟩ := by
  have hc := has_cons (C := C) hN
  have hs := F.noStar
  simp only [checkBuiltinCall, F.newKind, F.newSplit, F.newRow]
  repeat (first
    | refine wpAny_loadPart_at hC ?_
    | (refine wpAny_isSubtype_exc hC ?_; rw [hc])
    | refine wpAny_staticBase_exc hC ?_
    | refine wpAny_madeBy_exc hC ?_
    | simp only [bne_self_eq_false, Bool.false_eq_true, if_false]
    | wp_step)
  exact hq
end
section
variable {prog : Program} {w : World} {A : Around} {E : Value → Shared → Prop} {R : Result → Shared → Prop} {h : Heap} {g : Array GenState} {d : Drawn} {t : Nat} {os : OsState}
variable {nm q : Str} {C N : Addr} {bs bm bmN : List Value} {hdct : Bool} {sn : List Str} {sub : List Value} {ab : Bool} {col : Option Bool} {dd : Option Addr} {k0 k1 k2 k3 k5 : Option Value} {B nB nw i0 ini : String}
abbrev exO (C t : Addr) : Obj := PySem.HandSPX.excO C t
theorem sup_new (F : ExcBaseFacts nB nw i0 bmN) (hN : bm.contains (.type nB) = true) (hA : bm.contains (.type "AttributeError") = false) (hE : bm.contains (.type "NameError") = false) {rest : List Value}
    (hC : h.get? C = some (exC nm q C N bs bm hdct sn sub ab col dd k0 k1 k2 k3 k5 nw))
    (hq : R (.ok (.ret (.ref (h.objs.size + 1)))) ⟨(h.push (PySem.W.kdv_tup rest)).push (exO C h.objs.size), g, d, t, os⟩) (hrest : rest.length ≤ sizeLine) :
    codeAny (model prog w) A (.builtin nw ⟨.ref C :: rest, []⟩) R ⟨h, g, d, t, os⟩ := by
  have he := F.ends
  have c1 := has_cons (C := C) hN
  have c2 := has_cons (C := C) hA
  have c3 := has_cons (C := C) hE
  refine codeAny_builtinAt F.entry ?_
  unfold Builtin.«BaseException.__new__»
  refine PySem.wpAt_bind ?_
  show PySem.wpAt _ _ _ (stack >>= _) _ _ _
  refine PySem.wpAt_bind (PySem.wpAt_stack fun p below => PySem.wpAt_of_wpAny ?_)
  wp_walk
  refine PySem.wpAt_of_wpAny ?_
  rw [F.owner]
  repeat (first
    | with_reducible refine wpAny_madeHere_exc F.canon hC ?_
    | with_reducible refine wpAny_loadPart_at hC ?_
    | (with_reducible refine wpAny_isSubtype_exc hC ?_; first | rw [c1] | rw [c2] | rw [c3])
    | wp_step)
  show R _ _
  rw [Heap.size_push]
  exact hq
theorem sup_tcall (F : ExcBaseFacts nB nw i0 bmN) (hN : bm.contains (.type nB) = true) (hA : bm.contains (.type "AttributeError") = false) (hE : bm.contains (.type "NameError") = false) {rest : List Value} {fI : Addr} {Q : Fin → Shared → Prop}
    (hC : h.get? C = some (exC nm q C N bs bm hdct sn sub ab col dd k0 k1 k2 k3 k5 nw)) (hi : PySem.W.Looks (model prog w) h (typeLookup (.ref C) "__init__") (some (.ref fI)))
    (hb : ∀ self, PySem.W.Looks (model prog w) h (bindSpecial (.ref fI) self) (.ref fI, [self])) (hrest : rest.length ≤ sizeLine)
    (hq : codeAny (model prog w) A (.call (.ref fI) ⟨.ref (h.objs.size + 1) :: rest, []⟩) (fun r s' => match r with | .ok (.ret v) => v = .none ∧ Q (.done (.ret (.ref (h.objs.size + 1)))) s' | .ok _ => False | .error e => E e s')
      ⟨(h.push (PySem.W.kdv_tup rest)).push (exO C h.objs.size), g, d, t, os⟩) : wpAny (model prog w) A (Builtin.«type.__call__» ⟨.ref C :: rest, []⟩) Q E ⟨h, g, d, t, os⟩ := by
  repeat (first
    | with_reducible refine wpAny_loadPart_at hC ?_
    | with_reducible refine wpAny_madeBy_exc hC ?_
    | wp_step)
  refine codeAny_call_builtin_code (Code.quiet_builtin _ F.quiet) (sup_check F hN hC ?_)
  refine sup_new F hN hA hE hC ?_ hrest
  show wpAny _ _ _ _ _ _
  have k : ∀ b o, h.get? b = some o → ((h.push (PySem.W.kdv_tup rest)).push (exO C h.objs.size)).get? b = some o := fun b o e => Heap.get?_push_of_some _ (Heap.get?_push_of_some _ e)
  have hC1 := k _ _ hC
  have hget : ((h.push (PySem.W.kdv_tup rest)).push (exO C h.objs.size)).get? (h.objs.size + 1) = some (exO C h.objs.size) := by heap_get
  have hcc : (Value.ref C :: bm).contains (.ref C) = true := by simp
  have i1 := hi.keeps k
  have b1 := (hb (.ref (h.objs.size + 1))).keeps k
  unfold isInstance
  repeat (first
    | with_reducible refine wpAny_loadPart_at hget ?_
    | (with_reducible refine wpAny_isSubtype_exc hC1 ?_; rw [hcc])
    | wp_step)
  show wpAny _ _ (typeLookup (.ref C) _) _ _ _
  refine i1.at ?_
  refine wpAny_holding (wpAny_bind (b1.at ?_))
  refine wpAny_bind (wpAny_call (codeAny_mono hq fun r s' z => ?_))
  cases r with
  | error e => exact z
  | ok fl =>
    cases fl with
    | ret v =>
      obtain ⟨rfl, z⟩ := z
      first
        | exact wpAny_pure (wpAny_pure z)
        | (wp_walk; exact z)
    | next => exact z.elim
    | brk => exact z.elim
    | cont => exact z.elim
theorem sup_call (F : ExcBaseFacts nB nw i0 bmN) (hN : bm.contains (.type nB) = true) (hA : bm.contains (.type "AttributeError") = false) (hE : bm.contains (.type "NameError") = false) {rest : List Value} {fI : Addr}
    (hC : h.get? C = some (exC nm q C N bs bm hdct sn sub ab col dd k0 k1 k2 k3 k5 nw)) (hi : PySem.W.Looks (model prog w) h (typeLookup (.ref C) "__init__") (some (.ref fI)))
    (hb : ∀ self, PySem.W.Looks (model prog w) h (bindSpecial (.ref fI) self) (.ref fI, [self])) (hrest : rest.length ≤ sizeLine)
    (hq : codeAny (model prog w) (A.under (.builtin "type.__call__" ⟨.ref C :: rest, []⟩)) (.call (.ref fI) ⟨.ref (h.objs.size + 1) :: rest, []⟩) (PySem.W.InitBack (h.objs.size + 1) R) ⟨(h.push (PySem.W.kdv_tup rest)).push (exO C h.objs.size), g, d, t, os⟩) :
    codeAny (model prog w) A (.call (.ref C) ⟨rest, []⟩) R ⟨h, g, d, t, os⟩ := by
  have f1 := tc_lookup
  have f2 := tc_bind (.ref C)
  have hTy : (⟨h, g, d, t, os⟩ : Shared).TypeIs (.ref C) "type" := ⟨_, hC, rfl⟩
  refine codeAny_of_tree ?_
  show wpAny _ _ (callAny (.ref C) _) _ _ _
  repeat (any_goals (first
    | assumption
    | with_reducible refine wpAny_loadPart_at hC ?_
    | wp_step))
  refine ⟨rfl, ?_⟩
  refine codeAny_call_builtin_at (Code.quiet_builtin _ (by decide +kernel)) entry_typeCall (wpAny_check_type_call_sub hC (sup_tcall F hN hA hE hC hi hb hrest ?_))
  refine codeAny_mono hq fun r s' z => ?_
  cases r with
  | error e => exact z
  | ok fl => cases fl <;> exact z
end
end Mn
/-! Mx2: super().__init__(msg); sf.f = a. -/
namespace Mn
open L2 PyProof.Rows PySem.Spec PySem
/-- the two statements of such an __init__ -/
def supBody (sf a f : Str) (msg : Expr) (ps : Nat → Pos) : List Stmt :=
  [.Expr (.Call (.Attribute (.Call (.Name "super" (ps 0)) [] [] (ps 1)) "__init__" (ps 2)) [msg] [] (ps 3)) (ps 4),
   .Assign [.Attribute (.Name sf (ps 5)) f (ps 6)] (.Name a (ps 7)) (ps 8)]
/-- its scope -/
structure SupS (sf a : Str) (sc : Scope) : Prop where
  kind : sc.kind = .function
  co : sc.isCoroutine = false
  gen : sc.isGenerator = false
  noc : ∀ x ∈ sc.names, x.2 ≠ .cell
  l1 : sc.names.lookup sf = some .local
  l2 : sc.names.lookup a = some .local
  gs : sc.names.lookup ("super" : Str) = some .globalImplicit
  gc : sc.names.lookup ("__class__" : Str) = some .free
  ne : sf ≠ a
  d1 : (sf == ("__debug__" : Str)) = false
  d2 : (a == ("__debug__" : Str)) = false
/-- the function at fI of the class at C -/
structure SupF (P : Program) (K : PySem.W.Frag) (C fI : Addr) (qual sf a f : Str) (msg : Expr) (params : Arguments) (scope : Scope) : Prop where
  fn : ∃ (oc : Value) (od : Option Addr) (dV kV doc pm : Value) (an : Option Addr) (ct : Value) (osl : Array (Option Value)) (cda cc : Addr) (ccl : Value) (cdd : Option Addr) (vs : Array Value) (ccs : Array (Option Value)) (file : Str) (tf : Tok)
    (cl : Value) (cld : Option Addr) (csl : Array (Option Value)) (ps : Nat → Pos),
    K.lookup fI = some ⟨oc, od, .func (PySem.W.ksFn "__init__" qual params (supBody sf a f msg ps) scope dV kV doc pm an (.ref cda) ct cc), osl⟩ ∧ PySem.W.codeIn K (.ref cda) qual = true ∧
    K.lookup cda = some ⟨ccl, cdd, .fields vs, ccs⟩ ∧ vs[2]? = some (.str file tf) ∧ ((P.main.file : Str) == file) = true ∧ K.lookup cc = some ⟨cl, cld, .cell (some (.ref C)), csl⟩ ∧
    ((ps 2).endLine == (ps 3).line) = true ∧ ∀ (x v : Value), bindArgs (PySem.W.ksFn "__init__" qual params (supBody sf a f msg ps) scope dV kV doc pm an (.ref cda) ct cc) ⟨[x, v], []⟩ = pure [(sf, x), (a, v)]
  sc : SupS sf a scope
  hp : ∃ ar : Arg, (params.posonlyargs ++ params.args).head? = some ar ∧ ar.arg = sf
  top : (P.main.scope.names.lookup ("super" : Str)).isSome = false
/-- the class -/
structure SupK (K : PySem.W.Frag) (C fI : Addr) (B nB nw i0 ini : String) (bmN bmB : List Value) (f : Str) : Prop where
  bs : BsF B nB nw i0 ini bmN bmB
  ci : PySem.W.excInitIn K C bmB nw = true
  ov : PySem.W.excOver K C bmB = true
  sa : PySem.W.findIn K (.ref C) "__setattr__" = some (some (.builtin "object.__setattr__"))
  tk : PySem.W.takerIn K C f = some none
  hd : PySem.W.hasDictIn K C = true
  op : PySem.W.nsIn K cStatics "thirdparty.any" = some none
  su : PySem.W.ks_superIn K C C "__init__" = some (some (.builtin ini))
  sB : PySem.W.subIn K (.ref C) (.type B) = some true
  sC : PySem.W.mroIn K C (.ref C) = some true
  nS : PySem.W.nsIn K mainGlobals "super" = some none
  iC : PySem.W.findIn K (.ref C) "__init__" = some (some (.ref fI))
  tI : PySem.W.typeIn K (.ref fI) = some (.type "function")
/-- what __init__ leaves of a new exception at x -/
structure SupEnd (h h' : Heap) (x C dx t1 : Addr) (f : Str) (v : Value) : Prop where
  keep : ∀ b o, b ≠ x → h.get? b = some o → h'.get? b = some o
  obj : h'.get? x = some { cls := .ref C, dict := some dx, data := .fields #[.ref t1, .none, .none, .none, .bool false, .none] }
  dbig : h.objs.size ≤ dx
  dne : dx ≠ x
  ns : h'.Ns1 dx (fun y => if y = f then some v else none)
section
variable {P : Program} {w : World} {A : Around} {E : Value → Shared → Prop} {R : Result → Shared → Prop} {s : Shared} {K : PySem.W.Frag} {mg : Str → Option Value} {base : Heap} {C fI : Addr} {qual sf a f : Str} {msg : Expr} {params : Arguments} {scope : Scope}
variable {B nB nw i0 ini : String} {bmN bmB : List Value}
abbrev supEnv (qual : Str) (scope : Scope) (L f : Addr) (cda cc : Addr) : Env := PySem.W.ksEnv qual scope L f (.ref cda) cc
/-- a bound built-in __init__ is asked -/
theorem sup_bound {M : Model} {h : Heap} {g : Array GenState} {d : Drawn} {t : Nat} {os : OsState} {nm q : Str} {N e : Addr} {oe : Obj} {bs bm : List Value} {hdct : Bool} {sn : List Str} {sub : List Value} {ab : Bool} {col : Option Bool} {dd : Option Addr} {k0 k1 k2 k3 k5 : Option Value}
    {rest : List Value} {Q : Unit → Shared → Prop} (F : InF B ini) (hC : h.get? C = some (exC nm q C N bs bm hdct sn sub ab col dd k0 k1 k2 k3 k5 nw)) (he : h.get? e = some oe) (hcls : oe.cls = .ref C) (hq : Q () ⟨h, g, d, t, os⟩) :
    wpAny M A (checkBoundCall ini ⟨.ref e :: rest, []⟩) Q E ⟨h, g, d, t, os⟩ := by
  have hs := F.star
  simp only [checkBoundCall, F.kind, F.row]
  repeat (first
    | (with_reducible refine wpAny_loadPart_at he ?_; rw [hcls])
    | with_reducible refine wpAny_loadPart_at hC ?_
    | wp_step)
  refine wpAny_onRaise ?_
  have z : ∀ (a b : String) (n : Nat), Bind.check ⟨.positional, "*", B, .self, [⟨"args", .varPos, false⟩]⟩ a b n (List.map (fun x => x.fst) ({ pos := Value.ref e :: rest } : Args).kw) = pure () := fun a b n => check_star_args _ _ _ _ _ _
  rw [z]
  exact wpAny_pure hq
theorem boot_super : bootBuiltins "super" = some (.type "super") := by
  first
    | decide +kernel
    | rfl
    | kernel_rfl
theorem sup_eval (hst : ∀ env : Env, starEach [msg] env = (false, eval msg env) :: starEach [] env) {ps : Nat → Pos} (hln : ((ps 2).endLine == (ps 3).line) = true) (env : Env) :
    eval (.Call (.Attribute (.Call (.Name "super" (ps 0)) [] [] (ps 1)) "__init__" (ps 2)) [msg] [] (ps 3)) env = (do
      let ov ← attributeBase (.Call (.Name "super" (ps 0)) [] [] (ps 1)) "__init__" env (eval (.Call (.Name "super" (ps 0)) [] [] (ps 1)) env)
      standAt (ps 2).atName
      let (f, first) ← holding [ov] (getMethod ov "__init__" (do return (← importBound (.Call (.Name "super" (ps 0)) [] [] (ps 1)) env).getD true))
      callWith (ps 3) f first (backTo (ps 3) (starEach [msg] env)) []) := by
  have hf : methodCallForm ([msg].length + ([] : List Keyword).length) (backTo (ps 3) (starEach [msg] env)) (backToKw (ps 3) (keywordEach [] env)) = true := by
    rw [hst]
    rfl
  show (do
      let ov ← attributeBase (.Call (.Name "super" (ps 0)) [] [] (ps 1)) "__init__" env (eval (.Call (.Name "super" (ps 0)) [] [] (ps 1)) env)
      standAt (ps 2).atName
      methodCall (.Call (.Name "super" (ps 0)) [] [] (ps 1)) "__init__" (ps 2) (ps 3) env ov ([msg].length + ([] : List Keyword).length) (backTo (ps 3) (starEach [msg] env)) (backToKw (ps 3) (keywordEach [] env))) = _
  unfold methodCall calleeOf methodCallPos
  rw [hf]
  simp only [hln, Bool.not_true, Bool.false_or, if_true, pure_bind]
  rfl
theorem sup_init (Fn : SupF P K C fI qual sf a f msg params scope) (Kl : SupK K C fI B nB nw i0 ini bmN bmB f) (M : Mod K mg base) (kb : ∀ b o, base.get? b = some o → s.heap.get? b = some o) {x t0 : Addr} {v : Value} (hx : s.heap.get? x = some (exO C t0)) (hnx : K.lookup x = none)
    (hroom : A.depth < recursionLimit)
    (hmsg : ∀ (L cda cc : Addr) (s1 : Shared) (m : Str → Option Value) (Q : Value → Shared → Prop) (E1 : Value → Shared → Prop), (∀ b o, s.heap.get? b = some o → s1.heap.get? b = some o) → s1.heap.Ns L m → m a = some v →
      (∀ u h' tk', (∀ b o, s1.heap.get? b = some o → h'.get? b = some o) → Q u { s1 with heap := h', toks := tk' }) → wpAny (model P w) (A.deeper (supEnv qual scope L fI cda cc)) (eval msg (supEnv qual scope L fI cda cc)) Q E1 s1)
    (hst : ∀ env : Env, starEach [msg] env = (false, eval msg env) :: starEach [] env)
    (hq : ∀ h' tk dx t1, SupEnd s.heap h' x C dx t1 f v → R (.ok (.ret .none)) { s with heap := h', toks := tk }) :
    codeAny (model P w) A (.call (.ref fI) ⟨[.ref x, v], []⟩) R s := by
  obtain ⟨oc, od, dV, kV, doc, pm, an, ct, osl, cda, cc, ccl, cdd, vs, ccs, file, tf, cl, cld, csl, ps, lk, hcd, lc, hvs, hfile, lcc, hln, hbind⟩ := Fn.fn
  obtain ⟨ar, har, harn⟩ := Fn.hp
  have X : K.In s.heap := M.kin.keeps kb
  have lim : s.heap.NoLimit := M.nolimit.keeps kb
  obtain ⟨mb, hmb, hboot⟩ := M.blt
  refine ks_codeAny_call_defAt (fd := PySem.W.ksFn "__init__" qual params (supBody sf a f msg ps) scope dV kV doc pm an (.ref cda) ct cc) (body := supBody sf a f msg ps) (binds := [(sf, .ref x), (a, v)]) hroom (X _ _ lk) rfl lim (PySem.W.codeRec_of X hcd) rfl
    (BindsTo.of_eq (hbind _ _)) Fn.sc.noc (fun y hy => ?_) (fun h1 hns k => ?_) Fn.sc.co Fn.sc.gen Fn.sc.kind
  · rcases List.mem_cons.mp hy with e | hy
    · rw [e]; exact Fn.sc.l1
    · rw [List.mem_singleton.mp hy]; exact Fn.sc.l2
  have mself : ([(sf, .ref x), (a, v)] : List (Str × Value)).reverse.lookup sf = some (.ref x) := by
    have h1 : (sf == a) = false := by simpa using Fn.sc.ne
    show ([(a, v), (sf, Value.ref x)] : List (Str × Value)).lookup sf = _
    rw [List.lookup_cons, h1]
    simp
  have ma : ([(sf, .ref x), (a, v)] : List (Str × Value)).reverse.lookup a = some v := by
    show ([(a, v), (sf, Value.ref x)] : List (Str × Value)).lookup a = _
    rw [List.lookup_cons]
    simp
  have X1 : K.In h1 := X.keeps k
  have hx1 := k _ _ hx
  have kb1 : ∀ b o, base.get? b = some o → h1.get? b = some o := fun b o e => k b o (kb b o e)
  have pk : ∀ (o : Obj) {hh : Heap} {b : Addr} {u : Obj}, hh.get? b = some u → (hh.push o).get? b = some u := fun o {hh b u} e => Heap.get?_push_of_some o e
  generalize hL : s.heap.objs.size = L at *
  show PySem.wpAt (model P w) (A.deeper (supEnv qual scope L fI cda cc)) (.func (supBody sf a f msg ps) (supEnv qual scope L fI cda cc)) (execs (supBody sf a f msg ps) (supEnv qual scope L fI cda cc)) _ _ _
  obtain ⟨nmC, NC, qC, bsC, bmC, hdC, snC, subC, abC, colC, ddC, z0, z1, z2, z3, z5, hC, hTC⟩ := PySem.W.excInit_of X1 Kl.ci
  obtain ⟨cd, hcd2⟩ : ∃ cd, PySem.W.clsIn K C = some cd := by
    cases z : PySem.W.clsIn K C with
    | some cd => exact ⟨cd, rfl⟩
    | none =>
      have := Kl.su
      unfold PySem.W.ks_superIn at this
      rw [z] at this
      cases this
  have hsu := Kl.su
  unfold PySem.W.ks_superIn at hsu
  rw [hcd2] at hsu
  have nC : x ≠ C := fun z => by
    obtain ⟨o, e⟩ : ∃ o, K.lookup C = some o := by
      unfold PySem.W.clsIn at hcd2
      split at hcd2
      · rename_i ho
        exact ⟨_, ho⟩
      · cases hcd2
    rw [z, e] at hnx
    cases hnx
  have hint : interactive (supEnv qual scope L fI cda cc) = false := by
    have hk : (supEnv qual scope L fI cda cc).scope.kind = .function := Fn.sc.kind
    unfold interactive
    first
      | (rw [hk]; rfl)
      | (simp only [hk]; rfl)
  refine ks_wpAt_execs_cons (ks_wpAt_Expr_any (ks_wpAt_MethodCall (ks_wpAt_super_base (fd := PySem.W.ksFn "__init__" qual params (supBody sf a f msg ps) scope dV kV doc pm an (.ref cda) ct cc) (ar := ar) (cc := cda) (vs := vs) (file := file) (tf := tf)
    Fn.sc.gs Fn.sc.gc (by decide) rfl (X1 _ _ lk) rfl har rfl (X1 _ _ lc) rfl hvs hfile Fn.top ?_) (he := sup_eval hst hln _)) (hi := hint))
  refine PySem.W.ks_loadName_global Fn.sc.kind Fn.sc.gs (PySem.Calls.loadGlobal_builtin (M.glob.keeps kb1) (PySem.W.mg_none_of M.kin M.glob Kl.nS) (hmb.keeps kb1) ((hboot _ (by decide +kernel)).trans boot_super) ⟨rfl, ?_⟩)
  refine wpAny_loadName_free Fn.sc.kind Fn.sc.gc rfl ⟨_, X1 _ _ lcc, rfl⟩ ?_
  rw [harn]
  refine wpAny_loadName_local Fn.sc.kind Fn.sc.l1 hns mself ?_
  refine ks_wpAny_isType_cls hC rfl ⟨rfl, ?_⟩
  refine ks_wpAny_call_super hC rfl hx1 rfl (fun c e => by cases e) (PySem.W.looks_mroIn X1 Kl.sC) (fun h2 e2 k2 => ?_)
  have X2 : K.In h2 := X1.keeps k2
  have hx2 := k2 _ _ hx1
  have I2 : PySem.W.InstAt h2 x (exO C t0) C none := ⟨hx2, rfl, rfl, trivial⟩
  refine PySem.W.kxs_getMethod Kl.bs.kx e2 (PySem.W.looks_opaque X2 Kl.op) (l₀ := cd.mro) (fun A Q E s k q => wpAny_bind ((PySem.W.looks_clsIn X2 hcd2) A _ E s k (wpAny_pure q))) rfl X2 hsu (I2.type.andThen (PySem.W.looks_subIn X2 Kl.sB)) nC (by decide) ?_
  -- the message, the call
  have hu : (h2.push (PySem.W.kxs_mw ini x)).get? h2.objs.size = some (PySem.W.kxs_mw ini x) := Heap.get?_push_size h2 rfl
  have kall : ∀ b o, s.heap.get? b = some o → (h2.push (PySem.W.kxs_mw ini x)).get? b = some o := fun b o e => pk _ (k2 b o (k b o e))
  have hns2 : (h2.push (PySem.W.kxs_mw ini x)).Ns L (fun y => ([(sf, .ref x), (a, v)] : List (Str × Value)).reverse.lookup y) := hns.keeps fun b o e => pk _ (k2 b o e)
  rw [hst]
  refine PySem.W.kxs_callWith (i := ini) (x := x) rfl (PySem.Calls.evalArgs_plain (PySem.Calls.spliced_cons ?_))
  refine hmsg L cda cc _ _ _ _ kall hns2 ma fun mv h3 tk3 k3 => ?_
  refine PySem.Calls.spliced_nil ⟨k3 _ _ hu, ?_⟩
  have hx3 : h3.get? x = some (exO C t0) := k3 _ _ (pk _ hx2)
  have hC3 := k3 _ _ (pk (PySem.W.kxs_mw ini x) (k2 _ _ hC))
  have hu3 := k3 _ _ hu
  generalize h2.objs.size = u at *
  refine wpAny_call (codeAny_of_tree ?_)
  show wpAny _ _ (callAny (.ref u) ⟨[mv], []⟩) _ _ _
  simp only [callAny]
  refine wpAny_bind (wpAny_load hu3 ?_)
  have w1 : (Value.type "method-wrapper" == Value.type "method" || Value.type "method-wrapper" == Value.type "builtin_function_or_method" || Value.type "method-wrapper" == Value.type "method-wrapper") = true := by decide
  simp only [PySem.W.kxs_mw, w1, if_true]
  refine PySem.W.KFB.if_so (by decide) ?_
  refine wpAny_bind (sup_bound Kl.bs.inn hC3 hx3 rfl ?_)
  refine wpAny_bind (wpAny_pure (wpAny_pure ?_))
  refine ⟨plainId_quiet Kl.bs.inn.plain _, codeAny_builtin Kl.bs.inn.entry ?_⟩
  refine PySem.W.exc_init_tree (cls := .ref C) (t0 := t0) (dv := none) (c2 := .none) (c3 := .none) (b4 := .bool false) hx3 (by rw [sizeLine_eq]; exact (by decide : 1 ≤ 16777216)) (fun h4 k4 e4 _ => ?_)
  -- self.f = a
  have al4 : ∀ b o, b ≠ x → s.heap.get? b = some o → h4.get? b = some o := fun b o hb e => k4 b o hb (k3 _ _ (kall b o e))
  have X4 : K.In h4 := fun b o e => al4 b o (fun z => by rw [z, hnx] at e; cases e) (X b o e)
  have hLs : ∀ o, h1.get? L = some o → h4.get? L = some o := fun o e => k4 L o (fun z => by
    have q1 := Heap.lt_size hx
    rw [hL, ← z] at q1
    exact Nat.lt_irrefl _ q1) (k3 _ _ (pk _ (k2 _ _ e)))
  have hns4 : h4.Ns L (fun y => ([(sf, .ref x), (a, v)] : List (Str × Value)).reverse.lookup y) := by
    obtain ⟨o, es, ep, e1, r⟩ := hns
    exact ⟨o, es, ep, hLs o e1, r⟩
  have hdd : cd.hasDict = true := by
    have q := Kl.hd
    unfold PySem.W.hasDictIn at q
    rw [hcd2] at q
    simpa using q
  generalize htt : h3.objs.size = t4 at *
  have I4 : PySem.W.InstAt h4 x (exO C t4) C none := ⟨e4, rfl, rfl, trivial⟩
  show PySem.wpAt _ _ _ (execs [.Assign [.Attribute (.Name sf (ps 5)) f (ps 6)] (.Name a (ps 7)) (ps 8)] (supEnv qual scope L fI cda cc)) _ _ _
  refine ks_wpAt_execs_cons (ks_wpAt_Assign_Attr (PySem.wpAt_of_wpAny ?_))
  refine wpAny_Name (wpAny_loadName_local (env := supEnv qual scope L fI cda cc) (name := a) (m := fun y => ([(sf, .ref x), (a, v)] : List (Str × Value)).reverse.lookup y) (v := v) Fn.sc.kind Fn.sc.l2 hns4 ma ?_) Fn.sc.d2
  refine wpAny_Name (wpAny_loadName_local (env := supEnv qual scope L fI cda cc) (name := sf) (m := fun y => ([(sf, .ref x), (a, v)] : List (Str × Value)).reverse.lookup y) (v := .ref x) Fn.sc.kind Fn.sc.l1 hns4 mself ?_) Fn.sc.d1
  refine PySem.W.set_plain X4 I4 Kl.sa ?_
  refine PySem.W.osa_openX Kl.bs.st X4 I4 Kl.ov Kl.tk (fun b => ?_)
  have hcl4 : PySem.W.Looks (model P w) h4 (classData C) cd := PySem.W.looks_clsIn X4 hcd2
  obtain ⟨n1, n2, n3, n4, n5, n6, n7, n8, n9, n10, n11⟩ := cd
  dsimp only at hdd
  subst hdd
  show wpAny _ _ (Builtin.ObjectAttr.storeInOwnDict (.ref x) (.ref C) (.str f _) f v b) _ _ _
  unfold Builtin.ObjectAttr.storeInOwnDict Builtin.ObjectAttr.ownDictForStores
  have hxs : x ≠ h4.objs.size := Nat.ne_of_lt (Heap.lt_size e4)
  repeat (first
    | with_reducible refine PySem.HandSPX.store_in_new ?_ ?_
    | with_reducible refine wpAny_loadPart_at e4 ?_
    | with_reducible refine hcl4.at ?_
    | wp_step)
  · exact ⟨_, #[], _, (Heap.get?_update_ne _ _ _ _ hxs.symm).trans (Heap.get?_push_at rfl rfl), rfl, fun e he => absurd he (by simp), fun _ => rfl⟩
  · intro h5 tk5 hn5 sb5
    show PySem.wpAt _ _ _ (execs [] _) _ _ _
    refine PySem.wpAt_of_wpAny (wpAny_execs_nil ?_)
    have hx5 : (h4.push { cls := .type "dict", data := .dict #[] }).get? x = some (exO C t4) := pk _ e4
    refine hq h5 tk5 h4.objs.size t4 ⟨fun b o hb e => ?_, ?_, ?_, hxs.symm, hn5⟩
    · have q := al4 b o hb e
      exact (sb5.2 b (Nat.ne_of_lt (Heap.lt_size q))).trans ((Heap.get?_update_ne _ _ _ _ hb).trans (pk _ q))
    · exact (sb5.2 x hxs).trans (Heap.get?_update_self _ hx5 rfl)
    · rw [hL]
      exact Nat.le_of_lt hns4.lt
end
end Mn
/-! Mx3: C(e), C's __init__ as in Mx2. -/
namespace Mn
open L2 PyProof.Rows PySem.Spec PySem
/-- the text of a value made for a message: nothing of it is told but that it is there -/
structure Says (P : Program) (w : World) (h0 : Heap) (A : Around) (v : Value) : Prop where
  rp : ∀ (s1 : Shared) (Q : Value → Shared → Prop) (E : Value → Shared → Prop), (∀ b o, h0.get? b = some o → s1.heap.get? b = some o) →
    (∀ y t h' tk', (∀ b o, s1.heap.get? b = some o → h'.get? b = some o) → y.length + 1000 ≤ sizeLine → Q (.str y t) { s1 with heap := h', toks := tk' }) → wpAny (model P w) A (pyReprObj v) Q E s1
/-- the messages that are served -/
inductive MsgK (a : Str) : Expr → Prop
  | k (m : Str) (j : Nat) (p : Pos) : MsgK a (.Constant (.str m) j p)
  | rk (m : Str) (j : Nat) (p1 p2 p3 p4 : Pos) : m.length ≤ 900 → MsgK a (.JoinedStr [.FormattedValue (.Name a p1) 114 none p2, .Constant (.str m) j p3] p4)
  | kr (m : Str) (j : Nat) (p1 p2 p3 p4 : Pos) : m.length ≤ 900 → MsgK a (.JoinedStr [.Constant (.str m) j p3, .FormattedValue (.Name a p1) 114 none p2] p4)
theorem MsgK.star {a : Str} {msg : Expr} (h : MsgK a msg) (env : Env) : starEach [msg] env = (false, eval msg env) :: starEach [] env := by
  cases h <;> rfl
section
variable {P : Program} {w : World} {A : Around} {s : Shared} {fI : Addr} {qual sf a : Str} {msg : Expr} {scope : Scope}
theorem msg_run (hs : SupS sf a scope) (hm : MsgK a msg) {h0 : Heap} {v : Value} (hv : ∀ L cda cc, Says P w h0 (A.deeper (supEnv qual scope L fI cda cc)) v) :
    ∀ (L cda cc : Addr) (s1 : Shared) (m : Str → Option Value) (Q : Value → Shared → Prop) (E1 : Value → Shared → Prop), (∀ b o, h0.get? b = some o → s1.heap.get? b = some o) → s1.heap.Ns L m → m a = some v →
      (∀ u h' tk', (∀ b o, s1.heap.get? b = some o → h'.get? b = some o) → Q u { s1 with heap := h', toks := tk' }) → wpAny (model P w) (A.deeper (supEnv qual scope L fI cda cc)) (eval msg (supEnv qual scope L fI cda cc)) Q E1 s1 := by
  intro L cda cc s1 m Q E1 k0 hn ma hq
  have nm : ∀ (p : Pos) (Q' : Value → Shared → Prop) (s2 : Shared), s2.heap.Ns L m → Q' v s2 → wpAny (model P w) (A.deeper (supEnv qual scope L fI cda cc)) (eval (.Name a p) (supEnv qual scope L fI cda cc)) Q' E1 s2 := fun p Q' s2 hn2 q =>
    wpAny_Name (wpAny_loadName_local (env := supEnv qual scope L fI cda cc) (name := a) (m := m) (v := v) hs.kind hs.l2 hn2 ma q) hs.d2
  have rp : ∀ (p1 p2 : Pos) (Q' : Value → Shared → Prop) (s2 : Shared), s2.heap.Ns L m → (∀ b o, h0.get? b = some o → s2.heap.get? b = some o) →
      (∀ y t h' tk', (∀ b o, s2.heap.get? b = some o → h'.get? b = some o) → y.length + 1000 ≤ sizeLine → Q' (.str y t) { s2 with heap := h', toks := tk' }) →
      wpAny (model P w) (A.deeper (supEnv qual scope L fI cda cc)) (eval (.FormattedValue (.Name a p1) 114 none p2) (supEnv qual scope L fI cda cc)) Q' E1 s2 := fun p1 p2 Q' s2 hn2 k2 q => by
    refine wpAny_FormattedValue_repr (nm p1 _ s2 hn2 ((hv L cda cc).rp s2 _ _ k2 fun y t h' tk' k3 hy => ?_))
    exact wpAny_formatField_str (q y t h' tk' k3 hy) (q y tk' h' (tk' + 1) k3 hy) (by omega)
  have cs : ∀ (x : Str) (j : Nat) (p : Pos) (Q' : Value → Shared → Prop) (s2 : Shared), Q' (.str x s2.toks) { s2 with toks := s2.toks + 1 } → wpAny (model P w) (A.deeper (supEnv qual scope L fI cda cc)) (eval (.Constant (.str x) j p) (supEnv qual scope L fI cda cc)) Q' E1 s2 := fun x j p Q' s2 q => PySem.Calls.Constant_str q
  have z0 : ∀ y : Str, (Str.empty ++ y).length = y.length := fun y => by
    rw [strLen_append]
    have : Str.empty.length = 0 := rfl
    omega
  cases hm with
  | k m' j p => exact cs m' j p _ _ (hq _ s1.heap _ fun _ _ e => e)
  | rk m' j p1 p2 p3 p4 hl =>
    refine wpAny_JoinedStr ?_
    have e0 : evalEach [.FormattedValue (.Name a p1) 114 none p2, .Constant (.str m') j p3] (supEnv qual scope L fI cda cc) = [eval (.FormattedValue (.Name a p1) 114 none p2) (supEnv qual scope L fI cda cc), eval (.Constant (.str m') j p3) (supEnv qual scope L fI cda cc)] := by
      first
        | rfl
        | simp [evalEach]
    rw [e0]
    refine rp p1 p2 _ s1 hn k0 fun y t h' tk' k3 hy => ⟨y, t, rfl, by rw [z0]; omega, ?_⟩
    refine cs m' j p3 _ _ ⟨m', _, rfl, by rw [strLen_append, z0]; omega, ?_⟩
    exact ⟨by rw [strLen_append, z0]; omega, hq _ h' _ k3⟩
  | kr m' j p1 p2 p3 p4 hl =>
    refine wpAny_JoinedStr ?_
    have e0 : evalEach [.Constant (.str m') j p3, .FormattedValue (.Name a p1) 114 none p2] (supEnv qual scope L fI cda cc) = [eval (.Constant (.str m') j p3) (supEnv qual scope L fI cda cc), eval (.FormattedValue (.Name a p1) 114 none p2) (supEnv qual scope L fI cda cc)] := by
      first
        | rfl
        | simp [evalEach]
    rw [e0]
    have hz : 900 ≤ sizeLine := by rw [sizeLine_eq]; exact (by decide : 900 ≤ 16777216)
    refine cs m' j p3 _ _ ⟨m', _, rfl, by rw [z0]; omega, ?_⟩
    refine rp p1 p2 _ _ hn k0 fun y t h' tk' k3 hy => ⟨y, t, rfl, by rw [strLen_append, z0]; omega, ?_⟩
    exact ⟨by rw [strLen_append, z0]; omega, hq _ h' _ k3⟩
end
/-! ### the call -/
theorem relO_one {v : V} {v' : Value} (r : RelV v v') (n f : Str) : RelO (List.lookup f [(n, v)]) (if f = n then some v' else none) := by
  have h := relO_put (f := n) (y := v) (u := v') (fs := []) (mA := fun _ => none) r (fun g => True.intro) f
  exact h
section
variable {X : Cx} {C fI : Addr} {qual sf a f : Str} {msg : Expr} {params : Arguments} {scope : Scope} {B nB nw i0 ini : String} {bmN bmB : List Value}
/-- C(e) -/
def tMkS (X : Cx) (C : Addr) (f : Str) (te : TE) : L2.St → Hp → XK → Prop := fun σ H Q => te σ H fun y H1 =>
  (∀ (pins : List (Addr × Obj)) (s : Shared) (u : Value) (A : Around), Inv X pins σ H1 s → RelV y u → A.guards = X.A.guards → A.units ≤ X.A.units + 60 → Says X.prog X.w s.heap A u) ∧ ∀ d, H1 d = none → Q (.ref C) (some d) (upd H1 d (.xd [(f, y)]))
theorem pmk_sup {x : Str} {e : Expr} {te : TE} {p pos : Pos} {k : Nat} (Fn : SupF X.prog X.K C fI qual sf a f msg params scope) (Kl : SupK X.K C fI B nB nw i0 ini bmN bmB f) (hm : MsgK a msg) (gC : X.mg x = some (.ref C)) (kC : PySem.W.keepIn X.K (.ref C) = true) (r : Raises X (.ref C))
    (hr : Room (k + 2) X.A) (hg : Gl X x) (he : PE X e te) (hst : starEach [e] X.env = (false, eval e X.env) :: starEach [] X.env) (hdb : (x == ("__debug__" : Str)) = false) : PMk X (.Call (.Name x p) [e] [] pos) (tMkS X C f te) := by
  intro pins s σ H Q I h
  refine wpAny_Call_Name_kw (ld_glob I hg gC ?_ hdb)
  refine PySem.W.callWith_K (h₀ := X.base) I.ok.mod.kin kC ?_ hst rfl
  rw [hst]
  show wpAny _ _ (spliced ((false, eval e X.env) :: backTo pos (starEach [] X.env))) _ _ s
  refine PySem.Calls.spliced_cons (thn (he.run pins s σ H _ I h) fun u s1 ⟨v, H1, I1, r1, q1, q2⟩ => ?_)
  refine PySem.Calls.spliced_nil ⟨I1.kIn, ?_⟩
  show wpAny _ _ (call (.ref C) [u]) _ _ _
  have M := I1.ok.mod
  have kb1 := I1.bk
  have X1 := I1.kIn
  obtain ⟨nmC, NC, qC, bsC, bmC, hdC, snC, subC, abC, colC, ddC, z0, z1, z2, z3, z5, hC, hTC⟩ := PySem.W.excInit_of X1 Kl.ci
  have hg0 : ∀ (A : Around), A.guards = X.A.guards → A.units ≤ X.A.units + 60 → Says X.prog X.w s1.heap A u := fun A g1 g2 => q1 pins s1 u A I1 r1 g1 g2
  obtain ⟨hp, g, dr, tk, os⟩ := s1
  have pk2 : ∀ b o, hp.get? b = some o → ((hp.push (PySem.W.kdv_tup [u])).push (exO C hp.objs.size)).get? b = some o := fun b o e => Heap.get?_push_of_some _ (Heap.get?_push_of_some _ e)
  have hget : ((hp.push (PySem.W.kdv_tup [u])).push (exO C hp.objs.size)).get? (hp.objs.size + 1) = some (exO C hp.objs.size) := by heap_get
  have hnx : X.K.lookup (hp.objs.size + 1) = none := by
    cases z : X.K.lookup (hp.objs.size + 1) with
    | none => rfl
    | some o =>
      have z2 : hp.get? (hp.objs.size + 1) = some o := X1 _ _ z
      exact absurd (Nat.lt_of_succ_lt (Heap.lt_size z2)) (Nat.lt_irrefl _)
  have h1l : ([u] : List Value).length ≤ sizeLine := by
    rw [sizeLine_eq]
    exact (by decide : 1 ≤ 16777216)
  have rm := hr.make C [u] []
  refine wpAny_call (sup_call Kl.bs.nw (by rw [hTC]; exact Kl.bs.hasN) (by rw [hTC]; exact Kl.bs.noA) (by rw [hTC]; exact Kl.bs.noN) hC (PySem.W.looks_findIn X1 Kl.iC) (fun sf => PySem.W.bind_fn X1 sf Kl.tI) h1l ?_)
  refine sup_init (s := ⟨(hp.push (PySem.W.kdv_tup [u])).push (exO C hp.objs.size), g, dr, tk, os⟩) Fn Kl M (fun b o e => pk2 b o (kb1 b o e)) hget hnx rm.depth (msg_run Fn.sc hm (h0 := (hp.push (PySem.W.kdv_tup [u])).push (exO C hp.objs.size)) fun L cda cc => ?_) hm.star fun h' tk' dx t1 hE => ?_
  · have q := hg0 ((X.A.under (.builtin "type.__call__" ⟨.ref C :: [u], []⟩)).deeper (supEnv qual scope L fI cda cc)) rfl (by
      have : ((X.A.under (.builtin "type.__call__" ⟨.ref C :: [u], []⟩)).deeper (supEnv qual scope L fI cda cc)).units = (X.A.under (.builtin "type.__call__" ⟨.ref C :: [u], []⟩)).units + 3 := rfl
      rw [this, make_units]
      omega)
    exact ⟨fun s1 Q E k0 => q.rp s1 Q E fun b o e => k0 b o (pk2 b o e)⟩
  · refine ⟨rfl, ?_⟩
    show MkP X pins σ Q (.ref (hp.objs.size + 1)) ⟨h', g, dr, tk', os⟩
    obtain ⟨keep, obj, dbig, dne, hns⟩ := hE
    have old : ∀ b o, hp.get? b = some o → h'.get? b = some o := fun b o q => keep b o (Nat.ne_of_lt (Nat.lt_succ_of_lt (Heap.lt_size q))) (pk2 b o q)
    obtain ⟨G', g1, g2⟩ := restrict h' fun b => decide (b ≠ hp.objs.size + 1)
    have gk : ∀ b, b ≠ hp.objs.size + 1 → G'.get? b = h'.get? b := fun b hb => g1 b (decide_eq_true hb)
    have ge : G'.get? (hp.objs.size + 1) = none := g2 _ (by simp)
    have big : hp.objs.size ≤ dx := by
      have q : hp.objs.size + 1 + 1 ≤ dx := by
        have q := dbig
        rw [Heap.size_push, Heap.size_push] at q
        exact q
      omega
    have ob : ObjOk X.prog X.w (upd H1 dx (.xd [(f, v)])) G' dx (.xd [(f, v)]) := ⟨_, hns.at (fun o q => (gk dx dne).trans q), fun n => relO_one r1 f n⟩
    have og : ∀ b o, hp.get? b = some o → G'.get? b = some o := fun b o q => (gk b (Nat.ne_of_lt (Nat.lt_succ_of_lt (Heap.lt_size q)))).trans (old b o q)
    have J : Inv X pins σ (upd H1 dx (.xd [(f, v)])) ⟨G', g, dr, tk', os⟩ := I1.laid (t' := tk') og big ob
    refine ⟨_, _, _, ⟨G', g, dr, tk', os⟩, _, .ref C, some dx, rfl, J, fun b o q => ?_, ge, obj, ⟨rfl, rfl⟩, rfl, rfl, ?_, rfl, I1.bare, r, q2 dx (I1.hok.fresh big)⟩
    · by_cases hb : b = hp.objs.size + 1
      · rw [hb, ge] at q
        cases q
      · exact (gk b hb).symm.trans q
    · rw [upd_ne (Ne.symm dne)]
      exact I1.hok.fresh (Nat.le_succ _)
end
end Mn
/-! Mr1: try with several clauses, each with or without «as». -/
namespace Mn
open L2 PyProof.Rows PySem.Spec PySem
/-- behind a suite whose name goes -/
def offE (o : Option Nat) (Dn : Ends) : Ends := match o with
  | none => Dn
  | some i => ⟨fun τ G => Dn.nx (τ.set i none) G, Dn.rt, fun τ G => Dn.bk (τ.set i none) G, fun τ G => Dn.ct (τ.set i none) G⟩
def onS (o : Option Nat) (τ : L2.St) (a : Addr) : L2.St := match o with
  | none => τ
  | some i => τ.set i (some (.ref a))
abbrev Cls3 := Option Nat × Value × (Addr → Value → Option Addr → TS)
/-- what the clauses ask of an exception, in their sequence -/
def wMix (K : PySem.W.Frag) (W0 : WX) (Dn : Ends) : List Cls3 → WX
  | [] => W0
  | (o, c, ts) :: r => fun cls d τ G => ∃ b, PySem.W.exmOne K cls c = some b ∧ (b = true → ∀ a, G a = none → ts a cls d (offE o Dn) (onS o τ a) G) ∧ (b = false → wMix K W0 Dn r cls d τ G)
inductive HdMix (X : Cx) : List ExceptHandler → List Cls3 → Prop
  | nil : HdMix X [] []
  | bare {x : Str} {c : Value} {ts : Addr → Value → Option Addr → TS} {s1 : Stmt} {ss : List Stmt} {q1 q2 : Pos} {r : List ExceptHandler} {l : List Cls3} (nm : Names X x c)
      (run : ∀ (a : Addr) (ob : Obj) (cls : Value) (d : Option Addr) (pn : List (Addr × Obj)), Zc cls d ob → (∃ vs, ob.data = .fields vs) → PSs (X.suite a ((a, ob) :: pn)) (s1 :: ss) (ts a cls d)) (more : HdMix X r l) :
      HdMix X (.ExceptHandler (some (.Name x q1)) none (s1 :: ss) q2 :: r) ((none, c, ts) :: l)
  | as_ {x n : Str} {i : Nat} {c : Value} {ts : Addr → Value → Option Addr → TS} {s1 : Stmt} {ss : List Stmt} {q1 q2 : Pos} {r : List ExceptHandler} {l : List Cls3} (nm : Names X x c) (nd : X.N.Nodup) (at_ : X.N[i]? = some n) (loc : X.env.kindOf n = some .local)
      (run : ∀ (a : Addr) (ob : Obj) (cls : Value) (d : Option Addr) (pn : List (Addr × Obj)), Zc cls d ob → (∃ vs, ob.data = .fields vs) → PSs (X.suite a ((a, ob) :: pn)) (s1 :: ss) (ts a cls d)) (more : HdMix X r l) :
      HdMix X (.ExceptHandler (some (.Name x q1)) (some n) (s1 :: ss) q2 :: r) ((some i, c, ts) :: l)
section
variable {X : Cx} {body : List Stmt} {hd1 : ExceptHandler} {hdr : List ExceptHandler} {l : List Cls3} {p : Pos} {tb : WX → TS} {W0 : WX}
/-- the clauses, looked at one after the other -/
theorem mix_go {pins : List (Addr × Obj)} {Dn : Ends} {a : Addr} {B : Heap} {sI st : Shared} {τ : L2.St} {G : Hp} {cls : Value} {d : Option Addr} {h3 : Heap} (tk : Takes X W0) (ok : X.Ok) (hs : X.stack = X.env :: X.outer) (hf : X.env.frame = some X.env.locals)
    (J : Inv X pins τ G sI) (nb : ∀ b o, sI.heap.get? b = some o → b ∉ frs X.stack → B.get? b = some o) (up : sI.heap.UpToSlots h3) (fl : HandSPX.FlyingZ B (X.env :: X.outer) a (Zc cls d) h3) (na : G a = none) (os : st.os = sI.os) (ag : AllBare st.gens) (nL : a ≠ X.env.locals) (nF : a ∉ X.fs) :
    ∀ {hds : List ExceptHandler} {cs : List Cls3}, HdMix X hds cs → wMix X.K W0 Dn cs cls d τ G → wpAny (model X.prog X.w) X.A (handleBy (.ref a) X.env hds) (SP X pins Dn) X.xe { st with heap := h3 } := by
  have J3 : Inv X pins τ G { st with heap := h3 } := J.landed nb fl.1 up os ag
  obtain ⟨ob3, ws3, ge3, zz3, dd3⟩ := fl.there
  have S3 := J3.suite ge3 dd3 na nL nF
  have looks : PySem.W.Looks (model X.prog X.w) h3 (typeOf (.ref a)) cls := by
    intro A' Q' E' s' k q
    exact wpAny_typeOf_ref (k _ _ ge3) (by rw [zz3.1]; exact q)
  -- the clause's class by its name
  have named : ∀ {x : Str} {c : Value} {q1 : Pos} {Q' E' : Value → Shared → Prop}, Names X x c → Q' c { st with heap := h3 } → wpAny (model X.prog X.w) (X.A.mark (some (.ref a))) (eval (.Name x q1) X.env) Q' E' { st with heap := h3 } := by
    intro x c q1 Q' E' nm q
    obtain ⟨g1, g2, g3⟩ := nm
    rcases g3 with g3 | ⟨g3, g4, g5⟩
    · exact ld_glob (X := X.suite a ((a, ob3) :: (X.pn ++ pins))) S3 g1 g3 q g2
    · exact ld_blt (X := X.suite a ((a, ob3) :: (X.pn ++ pins))) S3 g1 g3 g4 q g5 g2
  intro hds cs hk
  induction hk with
  | nil =>
    intro w
    refine wpAny_handleBy_nil ?_
    obtain ⟨_, _, _, oe, vs, T, oT, ts, g1, _, g2, g3, _⟩ := id fl
    unfold PySem.passOn
    refine wpAny_bind (wpAny_field g1 g2 g3 ?_)
    rw [if_neg (by simp : ¬ ((Value.ref T == Value.none) = true))]
    have leave : wpAny (model X.prog X.w) X.A (setFlight (.ref a) X.env.frame) (fun _ s4 => wpAny (model X.prog X.w) X.A (throw (.ref a) : Sem Flow) (SP X pins Dn) X.xe s4) X.xe { st with heap := h3 } := by
      rw [hf]
      refine HandSPX.setFlight_upZ fl ?_
      intro h4 held up4
      exact wpAny_throw (tk _ _ ⟨a, B, sI, pins, τ, G, cls, d, rfl, J, nb, up.trans up4, .inr (.inr (hs ▸ held)), na, os, ag, w⟩)
    first
      | exact wpAny_bind (wpAny_pure (wpAny_bind leave))
      | exact wpAny_bind leave
  | @bare x c ts s1 ss q1 q2 r l' nm run more ih =>
    intro w
    obtain ⟨b, e1, yes, no⟩ := w
    refine wpAny_handleBy_cons (codeAny_handlers_test (named nm ((PySem.W.exm_one (M := model X.prog X.w) J3.kIn looks e1).here ?_))) (fun z => nomatch z)
    cases b with
    | false => exact ih (no rfl)
    | true =>
      refine codeAny_handlers_suite (HandSPX.lands_againZ fl ?_)
      intro h4 fl4 up4
      obtain ⟨ob4, ws4, ge4, zz4, dd4⟩ := fl4.there
      have S4 := ((J.landed nb fl4.1 (up.trans up4) os ag : Inv X pins τ G { st with heap := h4 })).suite ge4 dd4 na nL nF
      refine wpAny_mono ((run a ob4 cls d (X.pn ++ pins) zz4 ⟨_, dd4⟩).run [] _ _ G _ S4 (yes rfl a na)) ?_ (fun _ _ z => z.elim)
      intro fl6 s6 r6
      match fl6, r6 with
      | .next, ⟨τ6, G6, S6, q6⟩ => exact ⟨_, _, S6.unsuite ok, q6⟩
      | .brk, ⟨τ6, G6, S6, q6⟩ => exact ⟨_, _, S6.unsuite ok, q6⟩
      | .cont, ⟨τ6, G6, S6, q6⟩ => exact ⟨_, _, S6.unsuite ok, q6⟩
      | .ret _, ⟨v6, τ6, G6, S6, rv, q6⟩ => exact ⟨_, _, _, S6.unsuite ok, rv, q6⟩
  | @as_ x n i c ts s1 ss q1 q2 r l' nm nd at_ loc run more ih =>
    intro w
    obtain ⟨b, e1, yes, no⟩ := w
    refine wpAny_handleBy_cons (codeAny_handlers_test (named nm ((PySem.W.exm_one (M := model X.prog X.w) J3.kIn looks e1).here ?_))) (fun z => nomatch z)
    cases b with
    | false => exact ih (no rfl)
    | true =>
      refine codeAny_handlers_suite_as (HandSPX.lands_againZ fl ?_)
      intro h4 fl4 up4
      obtain ⟨ob4, ws4, ge4, zz4, dd4⟩ := fl4.there
      have S4 := ((J.landed nb fl4.1 (up.trans up4) os ag : Inv X pins τ G { st with heap := h4 })).suite ge4 dd4 na nL nF
      refine store_ok (X := X.suite a ((a, ob4) :: (X.pn ++ pins))) (v := .ref a) S4 nd at_ (.inl loc) rfl ?_ (.inr loc)
      intro s5 S5
      refine wpAny_mono ((run a ob4 cls d (X.pn ++ pins) zz4 ⟨_, dd4⟩).run [] s5 _ G _ S5 (yes rfl a na)) ?_ (fun _ _ z => z.elim)
      intro fl6 s6 r6
      have off : ∀ {τ6 : L2.St} {G6 : Hp} {Q' : Shared → Prop}, Inv (X.suite a ((a, ob4) :: (X.pn ++ pins))) [] τ6 G6 s6 → (∀ s7, Inv X pins (τ6.set i none) G6 s7 → Q' s7) →
          wpAny (model X.prog X.w) X.A (do bindName X.env n .none; unbindBehindTheSuite X.env n q2) (fun _ s7 => Q' s7) X.xe s6 := by
        intro τ6 G6 Q' S6 hq
        exact gone_ok (S6.unsuite ok) nd at_ loc hq
      match fl6, r6 with
      | .next, ⟨τ6, G6, S6, q6⟩ => exact off S6 fun s7 J7 => ⟨_, _, J7, q6⟩
      | .brk, ⟨τ6, G6, S6, q6⟩ => exact off S6 fun s7 J7 => ⟨_, _, J7, q6⟩
      | .cont, ⟨τ6, G6, S6, q6⟩ => exact off S6 fun s7 J7 => ⟨_, _, J7, q6⟩
      | .ret _, ⟨v6, τ6, G6, S6, rv, q6⟩ => exact off S6 fun s7 J7 => ⟨_, _, _, J7, rv, q6⟩
theorem ps_try_mix (hs : X.stack = X.env :: X.outer) (hf : X.env.frame = some X.env.locals) (tk : Takes X W0)
    (hb : ∀ (W : WX) (pn : List (Addr × Obj)) (xe : Value → Shared → Prop), Takes (X.tr pn xe) W → PassesOwn (model X.prog X.w) X.A X.env xe → PSs (X.tr pn xe) body (tb W)) (hh : HdMix X (hd1 :: hdr) l) :
    PS X (.Try body (hd1 :: hdr) [] [] p) (fun Dn σ H => tb (wMix X.K W0 Dn l) Dn σ H) := by
  constructor
  intro pins s σ H Dn I h
  have ok := I.ok
  have hfr : X.A.frames = some (X.env :: X.outer) := by rw [ok.frames, hs]
  refine wpAny_Try_except ?_
  generalize hxe : (fun (e : Value) (t1 : Shared) => wpAny (model X.prog X.w) X.A (noteFrame e X.env) (fun _ t2 => wpAny (model X.prog X.w) X.A (setFlight e none) (fun _ t3 => wpAny (model X.prog X.w) X.A (handleBy e X.env (hd1 :: hdr)) (SP X pins Dn) X.xe t3) X.xe t2) X.xe t1) = xe0
  have takes : Takes (X.tr (X.pn ++ pins) xe0) (wMix X.K W0 Dn l) := by
    rintro u st ⟨a, B, sI, pins', τ, G, cls, d, rfl, J', nb, up, sky, na, os, ag, w⟩
    have J : Inv X pins τ G sI := J'.ofTry ok
    rw [← hxe]
    show wpAny (model X.prog X.w) X.A (noteFrame (.ref a) X.env) _ _ _
    have sky' : Sky B (X.env :: X.outer) a (Zc cls d) X.env.locals st.heap := hs ▸ sky
    refine Sky.land Zc.steady hfr hf sky' ?_
    intro h3 fl up3
    obtain ⟨ob, vs, ge, zz, dd⟩ := fl.there
    have out : a ∉ frs (X.env :: X.outer) := fun hm => by
      obtain ⟨_, o', e', hnf⟩ := fl.2.2.1.mem hm
      rw [ge] at e'
      cases e'
      exact hnf _ dd
    refine mix_go tk ok hs hf J nb (up.trans up3) fl na os ag (fun z => out ?_) (fun hm => out ?_) hh w
    · exact List.mem_filterMap.mpr ⟨X.env, List.mem_cons_self, by rw [hf, z]⟩
    · obtain ⟨e, he, q⟩ := List.mem_filterMap.mp hm
      exact List.mem_filterMap.mpr ⟨e, List.mem_cons_of_mem _ he, q⟩
  refine wpAny_mono ((hb (wMix X.K W0 Dn l) (X.pn ++ pins) xe0 takes (hxe ▸ PassesOwn.looking)).run [] s σ H Dn (I.toTry _) h) ?_ (fun e t1 he => he)
  intro f t1 hsp
  match f, hsp with
  | .next, ⟨τ, G, J', q⟩ => exact wpAny_execs_nil ⟨τ, G, J'.ofTry ok, q⟩
  | .brk, ⟨τ, G, J', q⟩ => exact ⟨τ, G, J'.ofTry ok, q⟩
  | .cont, ⟨τ, G, J', q⟩ => exact ⟨τ, G, J'.ofTry ok, q⟩
  | .ret _, ⟨v, τ, G, J', rv, q⟩ => exact ⟨v, τ, G, J'.ofTry ok, rv, q⟩
end
end Mn
/-! Mr2: raise, try, dict displays against the evaluator's. -/
namespace Mn
open L2 PyProof.Rows PySem.Spec PySem
section
variable {X : Cx} {k : Ka} {W : WX} {cal : Nat → List D → Sto → R D} {fr : Nat} {s : Ev} {rs : Nat → P → Option Ex} {su : Nat → Nat → Option Bool}
/-! ### a value's text -/
theorem says_ok {pins : List (Addr × Obj)} {σ : Ls} {g : Gs} {H : Hp} {st : Shared} {v : V} {u : Value} {x : P} {A : Around} (I : Inv X pins σ H st) (hK : X.K = k.K) (r : RP k.toKg g H v x) (hx : says x = true) (ru : RelV v u) (hg : A.guards = some []) (hu : A.units + 66 < cLine) :
    Says X.prog X.w st.heap A u := by
  constructor
  intro s1 Q E k0 q
  unfold says at hx
  split at hx
  · rename_i ks ps
    cases r with
    | dct ha hl _ rp =>
      cases (show u = Value.ref _ from ru)
      cases e : reprD ks ps 1000 with
      | none => rw [e] at hx; cases hx
      | some y =>
        obtain ⟨h1, h2, h3, h4, _⟩ := reprD_some e
        obtain ⟨as, rd, hm⟩ := dct_of I ha hl rp h1
        exact pyReprObj_of_reads rd h2 (fun _ => hm) hg (by omega) k0 (fun h' t tk hk => q _ t h' tk hk h3) (by omega)
  · split at hx
    · rename_i n hn
      obtain ⟨h1, h2⟩ := Bool.and_eq_true_iff.mp hx
      obtain ⟨q1, q2⟩ := txt_len hn h1
      have h3 := Nat.le_of_ble_eq_true h2
      rw [line_eq] at h3
      have hz : (toP x).shown.length + 1000 ≤ sizeLine := by omega
      have hd := r.dp h1
      rw [← hK] at hd
      obtain ⟨as, rd⟩ := Dp.reads I _ v u hd ru
      have hnd := PyData.hasDict_of_canLay _ (SeqAt.canLay_of_shaped (dat_shaped h1))
      have hdp := SeqAt.depth_of_shaped (dat_shaped h1)
      have fin : ∀ (y : Str) (t : Tok) (tk' : Nat), y = (toP x).shown → Q (.str y t) { s1 with toks := tk' } := fun y t tk' e => by
        subst e
        exact q _ t s1.heap tk' (fun _ _ z => z) hz
      generalize hdd : toP x = d at hd rd hnd hdp q2 hz fin
      cases hd with
      | non => cases (show u = Value.none from ru); exact pyReprObj_none (fin _ _ _ (by simp [PyData.shown]))
      | bl b => cases (show u = Value.bool b from ru); exact pyReprObj_bool (fin _ _ _ (by simp [PyData.shown]))
      | int i =>
        obtain ⟨t, rfl⟩ := (show ∃ t, u = Value.int i t from ru)
        exact pyReprObj_int (by simpa [PyData.showable] using q2) (fin _ _ _ (by simp [PyData.shown]))
      | str y =>
        obtain ⟨t, rfl⟩ := (show ∃ t, u = Value.str y t from ru)
        exact pyReprObj_str (fin _ _ _ (by simp [PyData.shown])) (by simp only [PyData.shown] at hz; omega)
      | lst _ _ =>
        rename_i a _ _ _ _
        cases (show u = Value.ref a from ru)
        exact pyReprObj_of_reads rd q2 (PyData.noDict_hsm hnd) hg (by omega) k0 (fun h' t tk hk => q _ t h' tk hk hz) (by omega)
      | tup _ _ =>
        rename_i a _ _ _ _
        cases (show u = Value.ref a from ru)
        exact pyReprObj_of_reads rd q2 (PyData.noDict_hsm hnd) hg (by omega) k0 (fun h' t tk hk => q _ t h' tk hk hz) (by omega)
    · cases hx
/-! ### raise -/
/-- what is known of an own exception's class -/
structure ExF (pg : Program) (k : Kg) (mg : Str → Option Value) (rs : Nat → P → Option Ex) (y : Str) (ci : Nat) (C : Addr) : Prop where
  cl : k.cl ci = some C
  at_ : mg y = some (.ref C)
  kp : PySem.W.keepIn k.K (.ref C) = true
  sb : PySem.W.subIn k.K (.ref C) (.type "BaseException") = some true
  ty : PySem.W.typeIn k.K (.ref C) = some (.type "type")
  how : (∃ (B newId initId : String) (bmB : List Value), ExcBaseFacts B newId initId bmB ∧ PySem.W.excIn k.K C bmB newId = true ∧ ∀ x z, rs ci x = some z → z.c = ci ∧ z.fs = []) ∨
    (∃ (fI : Addr) (qual sf a f : Str) (msg : Expr) (params : Arguments) (scope : Scope) (B nB nw i0 ini : String) (bmN bmB : List Value), SupF pg k.K C fI qual sf a f msg params scope ∧ SupK k.K C fI B nB nw i0 ini bmN bmB f ∧ MsgK a msg ∧
      XfC k.K C ∧ PySem.W.findIn k.K (.ref C) f = some none ∧ ∀ x z, rs ci x = some z → z.c = ci ∧ z.fs = [(f, x)] ∧ says x = true)
theorem ss_raise {y : Str} {ci j : Nat} {C : Addr} {e : Expr} {e' : E} {p p2 pos : Pos} (hK : X.K = k.K) (hc : X.calm = true) (hgu : X.A.guards = some []) (hr : Room (j + 2) X.A) (tk : Takes X W) (F : ExF X.prog k.toKg X.mg rs y ci C) (hg : Gl X y) (hdb : (y == ("__debug__" : Str)) = false) (hst : noStar e = true)
    (he : PE X e (rdE k W (s.e e'))) : PS X (.Raise (some (.Call (.Name y p) [e] [] p2)) none pos) (rdS k W (evC s (some rs) su (.raise ci e'))) := by
  obtain ⟨f1, f2, f3, f4, f5, f6⟩ := F
  have rz : Raises X (.ref C) := raises_own (by rw [hK]; exact f4) (by rw [hK]; exact f5)
  -- the value, read
  have val : ∀ {σ H Dn}, rdS k W (evC s (some rs) su (.raise ci e')) Dn σ H → rdE k W (s.e e') σ H fun v H1 => ∃ g x S z L, RS k g H1 S ∧ RL k g H1 σ L ∧ RP k.toKg g H1 v x ∧ rs ci x = some z ∧ Bf k W g H1 (.ex z L S) Dn := by
    rintro σ H Dn ⟨g, L, S, rl, rs', b⟩
    refine ⟨g, L, S, rl, rs', (Bf.fl rl b).imp fun d S1 g1 H1 e1 rs1 b1 v rv => ?_⟩
    split at b1
    · rename_i x
      split at b1
      · rename_i z hz
        exact ⟨g1, x, S1, z, L, rs1, rl.mono e1, rv, hz, b1⟩
      · exact b1.elim
    · exact b1.elim
  rcases f6 with ⟨B, newId, initId, bmB, F1, F2, F3⟩ | ⟨fI, qual, sf, a, f, msg, params, scope, B, nB, nw, i0, ini, bmN, bmB, F1, F2, F3, F4, F5, F6⟩
  · refine PS.imp (ps_raise hc tk (SkE.pmk_own1 F1 (by rw [hK]; exact F2) f2 (by rw [hK]; exact f3) rz hg he (star_of hst [] X.env) hdb)) fun Dn σ H h => ?_
    refine (val h).imp fun v H1 ⟨g, x, S, z, L, rs1, rl, rv, hz, b⟩ => ?_
    obtain ⟨z1, z2⟩ := F3 x z hz
    exact b g H1 σ _ _ .refl rs1 rl ⟨C, by rw [z1]; exact f1, rfl, .inl ⟨z2, rfl⟩⟩
  · refine PS.imp (ps_raise hc tk (pmk_sup (hK ▸ F1) (hK ▸ F2) F3 f2 (by rw [hK]; exact f3) rz hr hg he (star_of hst [] X.env) hdb)) fun Dn σ H h => ?_
    refine (val h).imp fun v H1 ⟨g, x, S, z, L, rs1, rl, rv, hz, b⟩ => ?_
    obtain ⟨z1, z2, z3⟩ := F6 x z hz
    refine ⟨fun pins st u A I ru e1 e2 => says_ok I hK rv z3 ru (e1.trans hgu) ?_, fun d hd => ?_⟩
    · have := hr.un
      omega
    · have x1 := Ext.laid rs1 hd (.xd [(f, v)])
      refine b g _ σ _ _ x1 (rs1.laid hd _) (rl.mono x1) ⟨C, by rw [z1]; exact f1, rfl, .inr ⟨d, _, rfl, upd_same, rs1.fresh hd, ?_, fun f' p' _ => ?_⟩⟩
      · rw [z2]
        exact .cons (rv.mono x1) .nil
      · rename_i hl
        rw [z2, List.lookup_cons] at hl
        cases q : f' == f with
        | false => rw [q] at hl; cases hl
        | true =>
          rw [eq_of_beq q]
          exact ⟨F4, F5⟩
end
end Mn
/-! Mr3: the clauses of a try; dict displays. -/
namespace Mn
open L2 PyProof.Rows PySem.Spec PySem
/-- a constant of the text, as a value -/
def kV1 : P → V
  | .bl b => .bl b
  | .int i => .int i
  | .str x => .str x
  | _ => .non
def kP : Const → Option P
  | .none => some .non
  | .bool b => some (.bl b)
  | .int i => some (.int i)
  | .str x => some (.str x)
  | _ => none
theorem pe_k {X : Cx} {v : Const} {x : P} {j : Nat} {p : Pos} (h : kP v = some x) : PE X (.Constant v j p) (tC (kV1 x)) ∧ ∀ (k : Kg) g H, RP k g H (kV1 x) x := by
  unfold kP at h
  split at h <;> cases h
  · exact ⟨pe_non, fun _ _ _ => .non⟩
  · exact ⟨pe_bl, fun _ _ _ => .bl _⟩
  · exact ⟨pe_int, fun _ _ _ => .int _⟩
  · exact ⟨pe_str, fun _ _ _ => .str _⟩
section
variable {X : Cx} {k : Ka} {W : WX} {cal : Nat → List D → Sto → R D} {fr : Nat} {s : Ev} {rs : Option (Nat → P → Option Ex)} {su : Nat → Nat → Option Bool}
/-- the clause's class -/
structure ClsOf (X : Cx) (k : Kg) (y : Str) (ci : Nat) (C : Addr) : Prop where
  gl : Gl X y
  db : (y == ("__debug__" : Str)) = false
  at_ : X.mg y = some (.ref C)
  cl : k.cl ci = some C
inductive HTr (X : Cx) (k : Kg) : List ExceptHandler → List (Nat × Hd) → Prop
  | nil : HTr X k [] []
  | ret {y : Str} {ci j : Nat} {C : Addr} {v : Const} {x : P} {q1 q2 q3 q4 : Pos} {r : List ExceptHandler} {l : List (Nat × Hd)} : ClsOf X k y ci C → kP v = some x → HTr X k r l → HTr X k (.ExceptHandler (some (.Name y q1)) none [.Return (some (.Constant v j q3)) q4] q2 :: r) ((ci, .ret x) :: l)
  | rep {y n t f : Str} {ci i j : Nat} {C : Addr} {q1 q2 q3 q4 q5 q6 q7 q8 q9 : Pos} {r : List ExceptHandler} {l : List (Nat × Hd)} : ClsOf X k y ci C → X.N.Nodup → X.N[i]? = some n → X.env.kindOf n = some .local → (n == ("__debug__" : Str)) = false → (n == ("__classdict__" : Str)) = false →
      Gl X "repr" → X.mg "repr" = none → HTr X k r l →
      HTr X k (.ExceptHandler (some (.Name y q1)) (some n) [.Return (some (.BinOp (.Constant (.str t) j q3) .Add (.Call (.Name "repr" q5) [.Attribute (.Name n q6) f q7] [] q8) q9)) q4] q2 :: r) ((ci, .rep i t f) :: l)
/-- what is known of the table -/
def SuOk (k : Kg) (su : Nat → Nat → Option Bool) : Prop := ∀ a b q A B, su a b = some q → k.cl a = some A → k.cl b = some B → PySem.W.exmOne k.K (.ref A) (.ref B) = some q
theorem htr_mix (hK : X.K = k.K) (hgu : X.A.guards = some []) (hu : X.A.units + 66 < cLine) (hsu : SuOk k.toKg su) {W0 : WX} {hds : List ExceptHandler} {hs : List (Nat × Hd)} (h : HTr X k.toKg hds hs) :
    ∃ cs, HdMix X hds cs ∧ ∀ (x : Ex) (S : Sto) (L : Loc) (g : Gs) (H : Hp) (σ : Ls) (cls : Value) (dd : Option Addr) (Dn : Ends), RS k g H S → RL k g H σ L → RX k g H x cls dd → Bf k W g H (handle su x L hs S) Dn → wMix X.K W0 Dn cs cls dd σ H := by
  induction h with
  | nil => exact ⟨[], .nil, fun x S L g H σ cls dd Dn rs' rl rx b => b.elim⟩
  | @ret y ci j C v x q1 q2 q3 q4 r l hc hv _ ih =>
    obtain ⟨cs, m, q⟩ := ih
    refine ⟨(none, .ref C, fun a cls d Dn σ H => Dn.rt (kV1 x) H) :: cs, .bare ⟨hc.gl, hc.db, .inl hc.at_⟩ (fun a ob cls d pn _ _ => ?_) m, fun z S L g H σ cls dd Dn rs' rl rx b => ?_⟩
    · exact PSs.imp (pss_one (ps_ret (pe_k hv).1)) fun Dn σ H w => w
    · obtain ⟨C', c1, rfl, c3⟩ := id rx
      unfold handle at b
      split at b
      · rename_i e
        refine ⟨true, by rw [hK]; exact hsu _ _ _ _ _ e c1 hc.cl, fun _ a ha => ?_, fun z => by cases z⟩
        exact b g H _ .refl rs' ((pe_k (X := X) (j := 0) (p := default) hv).2 _ _ _)
      · rename_i e
        exact ⟨false, by rw [hK]; exact hsu _ _ _ _ _ e c1 hc.cl, (fun z => by cases z), fun _ => q z S L g H σ _ dd Dn rs' rl rx b⟩
      · exact b.elim
  | @rep y n t f ci i j C q1 q2 q3 q4 q5 q6 q7 q8 q9 r l hc nd hi hl d1 d2 hg hm _ ih =>
    obtain ⟨cs, m, q⟩ := ih
    refine ⟨(some i, .ref C, fun a cls d Dn σ H => ∃ (C' dd : Addr) (fs : List (Str × V)) (v : V), cls = .ref C' ∧ XfC X.K C' ∧ PySem.W.findIn X.K (.ref C') f = some none ∧ σ[i]? = some (some (.ref a)) ∧ d = some dd ∧ H dd = some (.xd fs) ∧ fs.lookup f = some v ∧ rRep X.K [v] H fun z H1 => ∃ y2, z = .str y2 ∧ t.length + y2.length ≤ sizeLine ∧ Dn.rt (.str (t ++ y2)) H1) :: cs,
      .as_ ⟨hc.gl, hc.db, .inl hc.at_⟩ nd hi hl (fun a ob cls d pn hz hf => ?_) m, fun z S L g H σ cls dd Dn rs' rl rx b => ?_⟩
    · constructor
      intro pins st σ H Dn I w
      obtain ⟨C', dd, fs, v, e1, e2, e3, e4, e5, e6, e7, e8⟩ := w
      have crr : CallR (X.suite a ((a, ob) :: pn)) (.builtin "repr") (rRep X.K) := call_rep (X := X.suite a ((a, ob) :: pn)) hgu hu
      have pv : PE (X.suite a ((a, ob) :: pn)) (.Name n q6) _ := pe_var (X := X.suite a ((a, ob) :: pn)) hi (.inl hl) d1 d2
      have px := pe_xf (X := X) (pos := q7) e2 e3 hz hf pv
      have pc := pe_callB (X := X.suite a ((a, ob) :: pn)) (pos := q8) (p := q5) crr hg hm (by decide +kernel) (pa_cons px pa_nil) (by decide +kernel) (by decide +kernel) rfl rfl
      have po := pe_op (X := X.suite a ((a, ob) :: pn)) (pos := q9) op_add_str (pe_str (x := t) (j := j) (pos := q3)) pc
      refine (pss_one (ps_ret (pos := q4) po)).run pins st σ H Dn I ⟨.ref a, e4, rfl, e1, dd, fs, v, e5, e6, e7, ?_⟩
      have up : ∀ {Q Q' : VK}, (∀ z G, Q z G → Q' z G) → rRep X.K [v] H Q → rRep X.K [v] H Q' := fun {Q Q'} i h => by
        rcases h with ⟨x, d, h1, h2, h3, h4, h5, h6⟩ | ⟨k, g, a, ob1, ks, vs, ps, h1, h2, h3, h4, h5, h6, h7, h8, h9⟩
        · exact .inl ⟨x, d, h1, h2, h3, h4, h5, i _ _ h6⟩
        · exact .inr ⟨k, g, a, ob1, ks, vs, ps, h1, h2, h3, h4, h5, h6, h7, h8, i _ _ h9⟩
      refine up (fun z G h => ?_) e8
      obtain ⟨y2, rfl, h1, h2⟩ := h
      exact ⟨t, y2, rfl, rfl, h1, h2⟩
    · obtain ⟨C', c1, rfl, c3⟩ := id rx
      unfold handle at b
      split at b
      · rename_i e
        refine ⟨true, by rw [hK]; exact hsu _ _ _ _ _ e c1 hc.cl, fun _ a ha => ?_, fun z => by cases z⟩
        have b : Bf k W g H (match (z.fs.lookup f).bind repr1 with
          | some (.str y) => if (Nat.ble (t.length + y.length) line && Nat.blt i L.length) = true then Fl.rt (.p (.str (t ++ y))) S else .bad
          | _ => .bad) Dn := b
        split at b
        · rename_i y2 e2
          split at b
          · rename_i e3
            rw [Bool.and_eq_true] at e3
            obtain ⟨p, e4, e5⟩ := Option.bind_eq_some_iff.mp e2
            rcases c3 with ⟨c3, _⟩ | ⟨a', vs, c3, c4, c5, c6, c7⟩
            · rw [c3] at e4; cases e4
            · obtain ⟨x1, x2⟩ := c7 f p e4
              have find : ∀ {vs : List (Str × V)} {fs : List (Str × P)}, RF k.toKg g H vs fs → fs.lookup f = some p → ∃ v, vs.lookup f = some v ∧ RP k.toKg g H v p := by
                intro vs fs r
                induction r with
                | nil => intro z; cases z
                | @cons n v vs q ps rp _ ih =>
                  intro z
                  rw [List.lookup_cons] at z ⊢
                  cases e : f == n with
                  | true => rw [e] at z; cases z; exact ⟨v, rfl, rp⟩
                  | false => rw [e] at z; exact ih z
              obtain ⟨v, v1, v2⟩ := find c6 e4
              have hil : i < σ.length := by rw [rl.1]; exact Nat.le_of_ble_eq_true e3.2
              refine ⟨C', a', vs, v, rfl, by rw [hK]; exact x1, by rw [hK]; exact x2, List.getElem?_set_self hil, c3, c4, v1, ?_⟩
              rw [hK]
              refine rep_in e5 rs' (.inl v2) fun g' H' x rs2 w rw' => ?_
              cases (show RP k.toKg g' H' w (.str y2) from rw')
              exact ⟨y2, rfl, by rw [← line_eq]; exact Nat.le_of_ble_eq_true e3.1, b g' H' _ x rs2 (RP.str _)⟩
          · exact b.elim
        · exact b.elim
      · rename_i e
        exact ⟨false, by rw [hK]; exact hsu _ _ _ _ _ e c1 hc.cl, (fun z => by cases z), fun _ => q z S L g H σ _ dd Dn rs' rl rx b⟩
      · exact b.elim
/-- try, with clauses that hand something back -/
theorem ss_tr {W0 : WX} {body : List Stmt} {b' : List C} {hd1 : ExceptHandler} {hdr : List ExceptHandler} {hs : List (Nat × Hd)} {pos : Pos} (hK : X.K = k.K) (hgu : X.A.guards = some []) (hu : X.A.units + 66 < cLine) (hsu : SuOk k.toKg su) (h1 : X.stack = X.env :: X.outer) (h2 : X.env.frame = some X.env.locals) (tk : Takes X W0)
    (hb : ∀ (W : WX) (pn : List (Addr × Obj)) (xe : Value → Shared → Prop), Takes (X.tr pn xe) W → PassesOwn (model X.prog X.w) X.A X.env xe → PSs (X.tr pn xe) body (rdS k W (s.c b'))) (hh : HTr X k.toKg (hd1 :: hdr) hs) :
    PS X (.Try body (hd1 :: hdr) [] [] pos) (rdS k W0 (evC s rs su (.tr b' hs))) := by
  obtain ⟨cs, m, q⟩ := htr_mix (W := W0) (W0 := W0) hK hgu hu hsu hh
  refine PS.imp (ps_try_mix h1 h2 tk hb m) fun Dn σ H h => ?_
  obtain ⟨g, L, S, rl, rs', b⟩ := h
  refine ⟨g, L, S, rl, rs', ?_⟩
  have b : Bf k W0 g H (match s.c b' L S with
    | .ex x L1 S1 => handle su x L1 hs S1
    | r => r) Dn := b
  cases e : s.c b' L S with
  | nx L1 S1 => rw [e] at b; exact b
  | rt d S1 => rw [e] at b; exact b
  | bk L1 S1 => rw [e] at b; exact b
  | ct L1 S1 => rw [e] at b; exact b
  | bad => rw [e] at b; exact b
  | ex x L1 S1 =>
    rw [e] at b
    intro g' H' σ' cls dd x1 rs1 rl1 rx1
    exact q x S1 L1 g' H' σ' cls dd Dn rs1 rl1 rx1 (b.mono x1)
/-! ### dict displays -/
theorem putK_new : ∀ {acc : List (Key × V)} {ky : Key} {v : V}, ky ∉ acc.map (·.1) → putK acc ky v = acc ++ [(ky, v)] := by
  intro acc ky v h
  unfold putK
  rw [if_neg]
  intro z
  rw [List.any_eq_true] at z
  obtain ⟨p, hp, e⟩ := z
  exact h (List.mem_map.mpr ⟨p, hp, of_decide_eq_true e⟩)
theorem merge_new : ∀ {more acc : List (Key × V)}, (acc.map (·.1) ++ more.map (·.1)).Nodup → mergeK acc more = acc ++ more
  | [], acc, _ => by simp [mergeK]
  | p :: r, acc, h => by
    have e : mergeK acc (p :: r) = mergeK (putK acc p.1 p.2) r := rfl
    have hp : p.1 ∉ acc.map (·.1) := by
      intro z
      rw [List.nodup_append] at h
      exact h.2.2 _ z _ (by simp) rfl
    rw [e, putK_new hp, merge_new (by simpa using h)]
    simp
/-- the text of a dict of constants -/
def keyC : Const → Option Key
  | .int i => some (.inl i)
  | .str x => some (.inr x)
  | _ => none
/-- a dict of written keys -/
def dctOf (f : Expr → Option E) : List (Option Expr) → List Expr → Option (List Key × List E)
  | [], [] => some ([], [])
  | some (.Constant c _ _) :: r, v :: r' => match keyC c, f v, dctOf f r r' with
    | some a, some b, some (ks, es) => some (a :: ks, b :: es)
    | _, _, _ => none
  | _, _ => none
def trsOf (k : Ka) (W : WX) (s : Ev) : List Key → List E → List (TE × TE)
  | ky :: ks, e :: es => (tC (kV ky), rdE k W (s.e e)) :: trsOf k W s ks es
  | _, _ => []
theorem pe_key {c : Const} {ky : Key} {j : Nat} {p : Pos} (h : keyC c = some ky) : PE X (.Constant c j p) (tC (kV ky)) := by
  unfold keyC at h
  split at h <;> cases h
  · exact pe_int
  · exact pe_str
theorem dctOf_ok {f : Expr → Option E} {pos : Pos} (hf : ∀ e e', f e = some e' → PE X e (rdE k W (s.e e'))) : ∀ {keys : List (Option Expr)} {vals : List Expr} {ks : List Key} {es : List E}, dctOf f keys vals = some (ks, es) → PPs X pos keys vals (trsOf k W s ks es) ∧ keys.all (·.isSome) = true ∧ keys.length = vals.length ∧ ks.length = keys.length ∧ es.length = keys.length
  | [], [], ks, ps, h => by
    cases h
    exact ⟨pps_nil, rfl, rfl, rfl, rfl⟩
  | [], _ :: _, _, _, h => by simp [dctOf] at h
  | _ :: _, [], _, _, h => by
    unfold dctOf at h
    split at h <;> first | (cases h; done) | skip
    all_goals simp_all
  | none :: _, _ :: _, _, _, h => by simp [dctOf] at h
  | some e :: r, v :: r', ks, ps, h => by
    cases e <;> first | (simp [dctOf] at h; done) | skip
    rename_i c j1 p1
    unfold dctOf at h
    split at h
    · rename_i a b ks' ps' h1 h2 h3
      cases h
      obtain ⟨i1, i2, i3, i4, i5⟩ := dctOf_ok hf h3
      exact ⟨pps_cons (pe_key h1) (hf _ _ h2) i1, by simp [i2], by simp [i3], by simp [i4], by simp [i5]⟩
    · cases h
theorem pairs_e {σ : Ls} {L : Loc} : ∀ {ks : List Key} {es : List E} {g : Gs} {H : Hp} {S : Sto} {Q : List (V × V) → Hp → Prop}, ks.length = es.length → RL k g H σ L → RS k g H S → Bk k W σ g H (evs s es L S) (fun ds _ g' H' => ∀ vs, RDs k g' H' vs ds → Q ((ks.zip vs).map fun kv => (kV kv.1, kv.2)) H') → tPairs (trsOf k W s ks es) σ H Q
  | [], [], g, H, S, Q, _, rl, rs', b => (show Bk k W σ g H (.ok [] S) _ from b).here rs' [] .nil
  | ky :: ks, e :: es, g, H, S, Q, h, rl, rs', b => by
    show rdE k W (s.e e) σ H fun y H1 => tPairs (trsOf k W s ks es) σ H1 fun l H2 => Q ((kV ky, y) :: l) H2
    have b : Bk k W σ g H ((s.e e L S).bind fun d S1 => (evs s es L S1).bind fun ds S2 => .ok (d :: ds) S2) (fun ds _ g' H' => ∀ vs, RDs k g' H' vs ds → Q (((ky :: ks).zip vs).map fun kv => (kV kv.1, kv.2)) H') := b
    refine ⟨g, L, S, rl, rs', b.bind.imp fun d S1 g1 H1 x1 rs1 b1 v rv => ?_⟩
    refine pairs_e (Nat.succ.inj h) (rl.mono x1) rs1 (b1.bind.imp fun ds S2 g2 H2 x2 rs2 b2 vs rvs => ?_)
    exact b2.here rs2 (v :: vs) (.cons (rv.mono x2) rvs)
  | [], _ :: _, _, _, _, _, h, _, _, _ => by cases h
  | _ :: _, [], _, _, _, _, h, _, _, _ => by cases h
/-- what an expression made is locked for good -/
def tFrz (t : TE) : TE := fun σ H Q => t σ H fun v H1 => ∃ d u, v = .ref d ∧ H1 d = some u ∧ Mut (some u) ∧ ∀ od, Q v (upd H1 d (.frz od u))
theorem pe_frz {e : Expr} {t : TE} (h : PE X e t) : PE X e (tFrz t) := by
  refine ⟨fun pins st σ H Q I q => thn (h.run pins st σ H _ I q) fun v s1 ⟨x, H1, I1, r, d, u, e1, e2, mu, q1⟩ => ?_⟩
  obtain ⟨od, I2⟩ := I1.lock e2 mu
  exact ⟨x, _, I2, r, q1 od⟩
theorem Want.dct {g : Gs} {H : Hp} {S : Sto} {Q : VK} {ks : List Key} {ps : List P} {vs : List V} (h : Want k g H S (.p (.dct ks ps)) Q) (rs' : RS k g H S) (l : ks.length = ps.length) (r : RPs k.toKg g H vs ps) : ∀ p od, H p = none → Q (.ref p) (upd H p (.frz od (.dK (ks.zip vs)))) :=
  fun p od n => h _ _ (Ext.laid rs' n _) (rs'.laid n _) _ (RP.dct upd_same l (rs'.fresh n) (r.mono (Ext.laid rs' n _)))
theorem evs_kk : ∀ (qs : List P) (L : Loc) (S : Sto) (s : Ev), (∀ q L S, s.e (.k q) L S = .ok (.p q) S ∨ s.e (.k q) L S = .bad) → evs s (qs.map .k) L S = .ok (qs.map .p) S ∨ evs s (qs.map .k) L S = .bad
  | [], L, S, s, h => .inl rfl
  | q :: qs, L, S, s, h => by
    have e : evs s ((q :: qs).map .k) L S = (s.e (.k q) L S).bind fun d S1 => (evs s (qs.map .k) L S1).bind fun ds S2 => .ok (d :: ds) S2 := rfl
    rw [e]
    rcases h q L S with z | z
    · rw [z]
      rcases evs_kk qs L S s h with y | y
      · exact .inl (by show (evs s (qs.map .k) L S).bind _ = _; rw [y]; rfl)
      · exact .inr (by show (evs s (qs.map .k) L S).bind _ = _; rw [y]; rfl)
    · exact .inr (by rw [z]; rfl)
theorem allP_of : ∀ (ps : List P), allP (ps.map .p) = some ps
  | [] => rfl
  | p :: ps => by
    show (allP (ps.map D.p)).map (p :: ·) = _
    rw [allP_of ps]; rfl
theorem RF.gp0 {k : Kg} {g g1 : Gs} {H H1 : Hp} {F : List (Str × V)} {fs : List (Str × P)} (x : Gp g H g1 H1) (h : RF k g H F fs) : RF k g1 H1 F fs := by
  induction h with
  | nil => exact .nil
  | cons r _ ih => exact .cons (r.gp x) ih
theorem RX.gp {g g1 : Gs} {H H1 : Hp} {x : Ex} {cls : Value} {dd : Option Addr} (y : Gp g H g1 H1) (h : RX k g H x cls dd) : RX k g1 H1 x cls dd := by
  obtain ⟨C, h1, h2, h3⟩ := h
  refine ⟨C, h1, h2, h3.imp id fun ⟨a, vs, q1, q2, q3, q4, q5⟩ => ⟨a, vs, q1, y.kp _ _ q2 trivial q3, y.notM _ _ q2 trivial q3, q4.gp0 y, q5⟩⟩
theorem se_dct {f : Expr → Option E} {keys : List (Option Expr)} {vals : List Expr} {ks : List Key} {es : List E} {pos : Pos} (hf : ∀ e e', f e = some e' → PE X e (rdE k W (s.e e'))) (h : dctOf f keys vals = some (ks, es)) (h15 : keys.length ≤ 15) : PE X (.Dict keys vals pos) (rdE k W (evE cal fr s (.dct ks es))) := by
  obtain ⟨i1, i2, i3, i4, i5⟩ := dctOf_ok (X := X) (k := k) (W := W) (s := s) (pos := pos) hf h
  have ok : ∀ {σ g H S1 Q ds}, Bk k W σ g H (match allP ds with
      | some ps => if (Nat.beq ks.length ps.length && Nat.ble ps.length 15 && decide ks.Nodup) = true then (.ok (.p (.dct ks ps)) S1 : R D) else .bad
      | none => .bad) (fun d _ g' H' => ∀ v, RD k g' H' v d → Q v H') → ∃ ps, allP ds = some ps ∧ ks.length = ps.length ∧ ps.length ≤ 15 ∧ ks.Nodup ∧ Want k g H S1 (.p (.dct ks ps)) Q := by
    intro σ g H S1 Q ds b1
    split at b1
    · rename_i ps ep
      split at b1
      · rename_i e
        simp only [Bool.and_eq_true, decide_eq_true_eq] at e
        exact ⟨ps, ep, Nat.eq_of_beq_eq_true e.1.1, Nat.le_of_ble_eq_true e.1.2, e.2, b1⟩
      · exact b1.elim
    · exact b1.elim
  cases keys with
  | nil =>
    have hv : vals = [] := List.length_eq_zero_iff.mp i3.symm
    subst hv
    have hk : ks = [] := List.length_eq_zero_iff.mp i4
    have hp : es = [] := List.length_eq_zero_iff.mp i5
    subst hk hp
    refine PE.imp (pe_frz pe_dnewK) fun σ H Q h => ?_
    obtain ⟨g, L, S, rl, rs', b⟩ := h
    obtain ⟨ps, ep, _, _, _, w⟩ := ok (ds := []) (S1 := S) b
    cases ep
    intro p hp
    refine ⟨p, _, rfl, upd_same, trivial, fun od => ?_⟩
    rw [upd_upd]
    exact w.dct rs' rfl .nil p od hp
  | cons ky keys =>
    refine PE.imp (pe_frz (pe_disp i1 i2 i3 (by simp) h15)) fun σ H Q h => ?_
    obtain ⟨g, L, S, rl, rs', b⟩ := h
    have b : Bk k W σ g H ((evs s es L S).bind fun ds S1 => match allP ds with
          | some ps => if (Nat.beq ks.length ps.length && Nat.ble ps.length 15 && decide ks.Nodup) = true then (.ok (.p (.dct ks ps)) S1 : R D) else .bad
          | none => .bad) fun d _ g' H' => ∀ v, RD k g' H' v d → Q v H' := b
    intro p hp
    have m0 := Sh.start (o := .dK []) rs' hp trivial
    refine pairs_e (i4.trans i5.symm) (rl.gr m0.gr) m0.rs ?_
    generalize evs s es L S = r at b
    cases r with
    | bad => exact b.elim
    | ex z S1 =>
      intro g' H' cls dd x rs1 rx
      have m1 := m0.step trivial x rs1
      obtain ⟨d1, d2, _⟩ := m1.done rs'
      exact b _ _ cls dd m1.ext d1 (rx.gp d2.gp)
    | ok ds S1 =>
      obtain ⟨ps, ep, l1, l2, l3, w⟩ := ok (ds := ds) (S1 := S1) b
      intro g' H' x rs1 vs rvs
      have m1 := m0.step trivial x rs1
      have rps := rvs.ofP ep
      have lv := rps.length
      refine ⟨m1.at_, ks.zip vs, rfl, ?_, ?_⟩
      · rw [List.length_zip]; omega
      · have nd : mergeK [] (ks.zip vs) = ks.zip vs := by
          rw [merge_new, List.nil_append]
          rw [List.map_nil, List.nil_append, List.map_fst_zip]
          · exact l3
          · omega
        rw [nd]
        refine ⟨p, _, rfl, upd_same, trivial, fun od => ?_⟩
        rw [upd_upd]
        obtain ⟨q1, q2, q3, q4⟩ := m1.lock trivial rs' od (.dK (ks.zip vs))
        exact w _ _ q1 q2 (.ref p) (RP.dct upd_same l1 q4 (rps.gr q3))
end
end Mn
/-! Mr4: lambdas: made, handed on. -/
namespace Mn
open L2 PyProof.Rows PySem.Spec PySem
section
variable {k k' : Ka} {g : Gs} {H : Hp} {S : Sto} {σ : Ls} {L : Loc}
theorem RS.notX (rs : RS k g H S) {a : Addr} {φ : Heap → Prop} (h : H a = some (.ext φ)) : ¬ g.M a := by
  rintro (z | z)
  · obtain ⟨o, e, m⟩ := rs.fl a z
    rw [h] at e
    cases e
    exact m
  · obtain ⟨_, _, _, _, _, e, _⟩ := rs.live z
    rw [h] at e
    cases e
/-! ### another context -/
theorem RLs.ctx (e : k.toKg = k'.toKg) (f : ∀ n x, k.fc n = some x → k'.fc n = some x) {n : Nat} {vs : List V} {ls : List (Nat × List Nat)} (h : RLs k g H n vs ls) : RLs k' g H n vs ls := by
  induction h with
  | nil => exact .nil
  | @cons v vs q ls a _ ih =>
    refine .cons ?_ ih
    obtain ⟨f', sl⟩ := q
    cases sl with
    | nil =>
      have a : RP k.toKg g H v (.lamc f') := a
      rw [e] at a
      exact a
    | cons i sl =>
      obtain ⟨a, t, cl, N, sc, h1, h2, h3, h4⟩ := a
      rw [e] at h3
      exact ⟨a, t, cl, N, sc, h1, f _ _ h2, h3, h4⟩
theorem RD.ctx (e : k.toKg = k'.toKg) (f : ∀ n x, k.fc n = some x → k'.fc n = some x) {d : D} (hd : putD d = true) {v : V} (h : RD k g H v d) : RD k' g H v d := by
  cases d with
  | p x =>
    have h : RP k.toKg g H v x := h
    rw [e] at h
    exact h
  | ref n => exact h
  | lam f' sl n =>
    obtain ⟨a, t, cl, N, sc, h1, h2, h3, h4⟩ := h
    rw [e] at h3
    exact ⟨a, t, cl, N, sc, h1, f _ _ h2, h3, h4⟩
  | clo _ _ => cases hd
  | dead => trivial
  | me => cases hd
  | lams ls n =>
    obtain ⟨a, vs, h1, h2, h3, h4⟩ := h
    exact ⟨a, vs, h1, h2, h3, h4.ctx e f⟩
theorem RDs.ctx (e : k.toKg = k'.toKg) (f : ∀ n x, k.fc n = some x → k'.fc n = some x) : ∀ {ds : List D} {vs : List V}, ds.all putD = true → RDs k g H vs ds → RDs k' g H vs ds
  | [], _, _, h => by cases h; exact .nil
  | d :: ds, _, hd, h => by
    rw [List.all_cons, Bool.and_eq_true] at hd
    cases h with
    | cons a b => exact .cons (a.ctx e f hd.1) (RDs.ctx e f hd.2 b)
theorem RS.ctx (e : k.toKg = k'.toKg) (f : ∀ n x, k.fc n = some x → k'.fc n = some x) (rs : RS k g H S) : RS k' g H S where
  len := rs.len
  nd := rs.nd
  fl := rs.fl
  dj := rs.dj
  cell := fun n a ds e1 e2 => by
    obtain ⟨vs, h1, h2⟩ := rs.cell n a ds e1 e2
    exact ⟨vs, h1, h2.ctx e f (rs.pu n ds e2)⟩
  tabs := by
    have h := rs.tabs
    rw [show k.T = k'.T from congrArg Kg.T e] at h
    exact h
  pu := rs.pu
theorem RX.ctx (e : k.toKg = k'.toKg) {x : Ex} {cls : Value} {dd : Option Addr} (h : RX k g H x cls dd) : RX k' g H x cls dd := by
  unfold RX at h ⊢
  rw [show k'.cl = k.cl from congrArg Kg.cl e.symm, show k'.K = k.K from congrArg Kg.K e.symm, ← e]
  exact h
/-- the frame's beginning at another state -/
def atX (k : Ka) (h : Heap) (H : Hp) : Ka := { k with h0 := h, H0 := H, ex := [], me := none }
/-! ### what a frame knows of its context -/
structure KF (X : Cx) (k : Ka) : Prop where
  h0 : X.s_0.heap = k.h0
  H0 : X.H_0 = k.H0
  ex : X.ex = k.ex
  fc : k.fc k.fr = some (X.env.cells, X.N, X.env.scope)
variable {X : Cx} {pins : List (Addr × Obj)} {st : Shared}
theorem cells_later {cl : List (Str × Addr)} {fr : List Str} {ws : List (Option V)} (C : NdefX.CellsAt cl fr ws X.s_0.heap X.H_0) (hx : ∀ y c, cl.lookup y = some c → c ∉ X.ex) (I : Inv X pins σ H st) : NdefX.CellsAt cl fr ws st.heap H := by
  have kp : ∀ y c, cl.lookup y = some c → ∀ v, X.s_0.heap.IsCell c v → st.heap.IsCell c v := by
    rintro y c e v ⟨o, ho, hd⟩
    obtain ⟨sl, q⟩ := I.base.any ho (C.all y c e).1 (hx y c e)
    exact ⟨_, q, hd⟩
  refine ⟨C.len, fun y c e => ?_, C.inj, fun i y e => ?_⟩
  · obtain ⟨n, v, o, ho, hd⟩ := C.all y c e
    exact ⟨I.base.free c o ho n (hx y c e), v, kp y c e v ⟨o, ho, hd⟩⟩
  · obtain ⟨c, hc, hv⟩ := C.has i y e
    refine ⟨c, hc, fun v ev => ?_⟩
    obtain ⟨u, ru, z⟩ := hv v ev
    exact ⟨u, ru, kp y c hc _ z⟩
theorem caps_rc (rl : RL k g H σ L) : ∀ {sl : List Nat} {cs : List (Sum P Nat)}, caps L sl = some cs → RC k.toKg g H (sl.map (NdefX.slotAt σ)) cs
  | [], cs, h => by
    cases h
    exact .nil
  | i :: sl, cs, h => by
    unfold caps at h
    split at h
    · rename_i c cs' h1 h2
      cases h
      have q := caps_rc rl h2
      unfold capD at h1
      split at h1
      · rename_i x e
        cases h1
        obtain ⟨v, e1, r⟩ := rl.2 i _ e
        rw [List.map_cons, NdefX.slotAt_of e1]
        exact .cons r q
      · rename_i n e
        cases h1
        obtain ⟨v, e1, r⟩ := rl.2 i _ e
        rw [List.map_cons, NdefX.slotAt_of e1]
        exact .cons r q
      · cases h1
    · cases h
theorem res_ok {Hr : Hp} (F : KF X k) (I : Inv X pins σ H st) (rl : RL k g Hr σ L) {d d' : D} {v : V} (e : resD k.fr L d = some d') (r : RD k g Hr v d) : RD (atX k st.heap H) g Hr v d' := by
  cases d with
  | p x => cases e; exact r
  | ref n => cases e; exact r
  | lam f sl n =>
    have e0 : (if n = k.fr then (caps L sl).map (D.clo f) else none) = some d' := e
    split at e0
    · rename_i hn
      subst hn
      obtain ⟨cs, h1, rfl⟩ := Option.map_eq_some_iff.mp e0
      obtain ⟨a, t, cl, N, sc, h2, h3, h4, h5, h6⟩ := r
      rw [F.fc] at h3
      cases h3
      exact ⟨a, t, _, _, h2, h4, ⟨NdefX.cells_of I (NdefX.Caps.made I.ok (NdefX.ndef_free h6) (NdefX.ndef_fr h6) h5), fun _ _ _ z => nomatch z⟩, caps_rc rl h1⟩
    · cases e0
  | clo f cs =>
    cases e
    obtain ⟨a, t, cl, ws, h2, h4, h5, h6⟩ := r
    refine ⟨a, t, cl, ws, h2, h4, ⟨cells_later ?_ (fun y c e => by rw [F.ex]; exact h5.2 y c e) I, fun _ _ _ z => nomatch z⟩, h6⟩
    rw [F.h0, F.H0]
    exact h5.1
  | dead => cases e
  | me => cases e
  | lams _ _ => cases e
theorem ress_ok {Hr : Hp} (F : KF X k) (I : Inv X pins σ H st) (rl : RL k g Hr σ L) : ∀ {ds ds' : List D} {vs : List V}, resDs k.fr L ds = some ds' → RDs k g Hr vs ds → RDs (atX k st.heap H) g Hr vs ds'
  | [], _, _, e, h => by
    cases e
    cases h
    exact .nil
  | d :: ds, _, _, e, h => by
    unfold resDs at e
    split at e
    · rename_i x xs h1 h2
      cases e
      cases h with
      | cons a b => exact .cons (res_ok F I rl h1 a) (ress_ok F I rl h2 b)
    · cases e
/-- plain things and cells, anywhere -/
theorem pures_at {ds : List D} {h : Heap} {H' : Hp} : ∀ {vs : List V}, ds.all pure1 = true → RDs k g H vs ds → RDs (atX k h H') g H vs ds := by
  induction ds with
  | nil => intro vs _ q; cases q; exact .nil
  | cons d ds ih =>
    intro vs e q
    rw [List.all_cons, Bool.and_eq_true] at e
    cases q with
    | cons a b =>
      refine .cons ?_ (ih e.2 b)
      cases d with
      | p x => exact a
      | ref n => exact a
      | _ => cases e.1
end
/-! ### a lambda is made -/
section
variable {X : Cx} {pins : List (Addr × Obj)} {σ : Ls} {H : Hp} {s : Shared}
theorem inv_lam {t : LamT} {cl : List (Str × Addr)} {c : Addr} {tk : Nat} {pm ctv : Value} (I : Inv X pins σ H s) :
    Inv X pins σ (upd H s.heap.objs.size (FnL s.heap.objs.size t cl c)) { s with heap := s.heap.push (PySem.W.kla_obj "<lambda>" t.qual t.params t.body t.scope cl pm c ctv), toks := tk } := by
  have e : (s.heap.push (PySem.W.kla_obj "<lambda>" t.qual t.params t.body t.scope cl pm c ctv)).get? s.heap.objs.size = some (PySem.W.kla_obj "<lambda>" t.qual t.params t.body t.scope cl pm c ctv) := Heap.get?_push_size _ rfl
  exact I.laid (a := s.heap.objs.size) (fun b u q => Heap.get?_push_of_some _ q) (Nat.le_refl _) ⟨⟨pm, ctv, e⟩, ⟨_, e⟩, fun h1 h2 ⟨p1, p2, z⟩ go => ⟨p1, p2, go _ z⟩⟩
theorem lam_mk {T : List (Addr × Str)} {c tb : Addr} {t : LamT} {pos : Pos} {E Q : Value → Shared → Prop} (I : Inv X pins σ H s) (TB : LamX.TabB X.base X.mg c tb) (hcode : X.env.code = .ref c) (hq : t.qual = X.env.qual ++ "<lambda>") (hm : (tb, t.qual) ∈ T) (one : ∀ p ∈ T, p.1 = tb → p.2 = t.qual) (hT : LamX.Tabs T H)
    (hdef : defaultsOf t.params X.env = ([], [])) (hfree : ∀ y ∈ t.scope.names, y.2 = .free → ∃ c, X.env.cells.lookup y.1 = some c)
    (go : ∀ (f c' : Addr) (H1 : Hp) (s' : Shared), Inv X pins σ H1 s' → LamX.ExtN H H1 → (∀ b, H1 b = Option.none → H b = Option.none) → LamX.Tabs T H1 → H1 f = some (FnL f t (cloFrom X.env.cells t.scope.names []) c') → H1 c' = some (LamX.CodeO c' t.qual) → Q (.ref f) s') :
    wpAny (model X.prog X.w) X.A (eval (.Lambda t.params t.body t.scope pos) X.env) Q E s := by
  obtain ⟨qs, atT, trip, all⟩ := hT _ hm
  refine PySem.W.kla_eval hdef ?_
  rw [← hq]
  have blt : s.heap.BuiltinsAt X.mg tb := TB.bm.keeps I.bk
  have tabNow : s.heap.get? tb = some { cls := .none, data := .fields qs } := I.hok tb _ atT
  have dead : ∀ {G : Hp} {a b : Addr} {o : HO}, upd G a o b = Option.none → G b = Option.none := by
    intro G a b o e
    unfold upd at e
    split at e
    · cases e
    · exact e
  cases found : codeAmong pos qs.toList with
  | some cv =>
    obtain ⟨c', ec, co⟩ := all pos cv found
    subst ec
    refine PySem.W.kla_makeFunctionHit (mg := X.mg) (c := c) (P := tb) (ps := qs) (closure_ok hfree) I.ok.glob (I.mod.glob.keeps I.bk) hcode (TB.code.keeps I.bk) tabNow trip found blt ?_
    intro ctv h' tk more _
    have I1 : Inv X pins σ H { s with heap := h', toks := tk } := I.kept more
    have new : H h'.objs.size = none := I1.hok.fresh (Nat.le_refl _)
    refine go h'.objs.size c' _ _ (inv_lam (t := t) (cl := cloFrom X.env.cells t.scope.names []) (c := c') (tk := tk) I1) (fun b o e _ => ?_) (fun b e => dead e) (hT.ext fun b o e => ?_) upd_same ?_
    · rw [upd_ne (ne_of_none e new)]; exact e
    · rw [upd_ne (ne_of_none e new)]; exact e
    · rw [upd_ne (ne_of_none co new)]; exact co
  | none =>
    refine PySem.W.kla_makeFunction (mg := X.mg) (c := c) (P := tb) (ps := qs) (closure_ok hfree) I.ok.glob (I.mod.glob.keeps I.bk) hcode (TB.code.keeps I.bk) tabNow trip found TB.gP blt ?_
    intro c' ctv h' tk more above below rec grown
    obtain ⟨c2, oc, vs, tt, e2, hoc, hd, hv⟩ := rec
    cases e2
    have newC : H c' = none := I.hok.fresh above
    have I1 := LamX.inv_table (t' := tk) (more := #[rawInt pos.line, rawInt pos.col, .ref c']) (h' := h') (q := t.qual) I atT (fun b o hb e => more b o hb e) grown above ⟨oc, vs, tt, hoc, hd, hv⟩
    generalize hG : upd (upd H tb (.tbl (qs ++ #[rawInt pos.line, rawInt pos.col, .ref c']))) c' (LamX.CodeO c' t.qual) = G at I1
    have gC : G c' = some (LamX.CodeO c' t.qual) := by rw [← hG]; exact upd_same
    have gT : G tb = some (.tbl (qs ++ #[rawInt pos.line, rawInt pos.col, .ref c'])) := by rw [← hG, upd_ne (ne_of_none atT newC), upd_same]
    have gE : LamX.ExtN H G := by
      intro b o e n
      rw [← hG, upd_ne (ne_of_none e newC), upd_ne]
      · exact e
      · intro z
        rw [z, atT] at e
        exact n qs (Option.some.inj e).symm
    have gN : ∀ b, G b = Option.none → H b = Option.none := fun b e => by
      rw [← hG] at e
      exact dead (dead e)
    have lst : (qs ++ #[rawInt pos.line, rawInt pos.col, .ref c']).toList = qs.toList ++ [rawInt pos.line, rawInt pos.col, .ref c'] := by simp
    have gTabs : LamX.Tabs T G := by
      intro p hp
      by_cases hb : p.1 = tb
      · rw [one p hp hb, hb]
        refine ⟨_, gT, by rw [lst]; exact PySem.TriplesOk_snoc _ _ _ _ trip, fun p' cv hcv => ?_⟩
        rw [lst] at hcv
        rcases LamX.among_app _ trip hcv with z | z
        · obtain ⟨c0, e1, e2⟩ := all p' cv z
          exact ⟨c0, e1, gE _ _ e2 LamX.codeO_ne⟩
        · exact ⟨c', z, gC⟩
      · obtain ⟨ps', a1, a2, a3⟩ := hT p hp
        refine ⟨ps', by rw [← hG, upd_ne (ne_of_none a1 newC), upd_ne hb]; exact a1, a2, fun p' cv hcv => ?_⟩
        obtain ⟨c0, e1, e2⟩ := a3 p' cv hcv
        exact ⟨c0, e1, gE _ _ e2 LamX.codeO_ne⟩
    have newF : G h'.objs.size = none := I1.hok.fresh (Nat.le_refl _)
    refine go h'.objs.size c' _ _ (inv_lam (t := t) (cl := cloFrom X.env.cells t.scope.names []) (c := c') (tk := tk) I1) (fun b o e n => ?_) (fun b e => gN b (dead e)) (gTabs.ext fun b o e => ?_) upd_same ?_
    · have e1 := gE b o e n
      rw [upd_ne (ne_of_none e1 newF)]; exact e1
    · rw [upd_ne (ne_of_none e newF)]; exact e
    · rw [upd_ne (ne_of_none gC newF)]; exact gC
end
end Mn
/-! Mn12: defs and their calls. -/
namespace Mn
open L2 PyProof.Rows PySem.Spec PySem
/-- room for a call, for a built-in's frame and a call -/
structure RoomX (j : Nat) (A : Around) : Prop extends Room j A where
  d2 : A.depth + 3 * j + 7 < recursionLimit
  u2 : A.units + 16 * j + 210 < cLine
theorem RoomX.of {j : Nat} {A : Around} (r : Room (j + 1) A) (env : Env) : RoomX j (A.deeper env) :=
  ⟨r.deeper env, by have := r.dp; show A.depth + 1 + 3 * j + 7 < _; omega, by have := r.un; show A.units + 3 + 16 * j + 210 < _; omega⟩
theorem RoomX.in1 {j : Nat} {A : Around} (r : RoomX j A) : Room j A.in1 :=
  ⟨r.hd, by have := r.d2; show A.depth + 3 * j + 5 < _; omega, by have := r.u2; show A.units + 1 + 16 * j + 200 < _; omega⟩
theorem RoomX.make {j : Nat} {A : Around} (r : RoomX j A) (C : Addr) (us : List Value) (kw : List (Str × Value)) : Room j (A.under (.builtin "type.__call__" ⟨.ref C :: us, kw⟩)) :=
  ⟨r.hd, by have := r.d2; rw [make_depth]; omega, by have := r.u2; rw [make_units]; omega⟩
/-- a def's promise, where no repr is under way -/
structure GOk (pg : Program) (w : World) (K : PySem.W.Frag) (mg : Str → Option Value) (base : Heap) (j : Nat) (f : Addr) (fd : FuncData) (ps : List Str) (sp : Heap → Sp) : Prop where
  len : ∀ h vs H Q E, sp h vs H Q E → vs.length = ps.length
  go : ∀ (A : Around) (outer : List Env) (s : Shared) (H : Hp) (args : Args) (us : List Value) (vs : List V) (Q : VK) (E : XK), Room j A → A.guards = some [] → Env0 pg w K mg base A outer s H → BindsTo s fd args (ps.zip us) →
    Vals vs us → sp s.heap vs H Q E → codeAny (model pg w) A (.call (.ref f) args) (CR (L2.CX pg w) outer pg w H s Q E) s
section
variable {pg : Program} {w : World} {K : PySem.W.Frag} {mg : Str → Option Value} {base : Heap}
/-- by the body -/
theorem gok_of {j : Nat} {f : Addr} {name qual : Str} {params : Arguments} {body : List Stmt} {scope : Scope} {dV kV doc pm cdv ct oc : Value} {an od : Option Addr} {osl : Array (Option Value)} {N ps : List Str} {sp : Heap → Sp}
    (lk : K.lookup f = some ⟨oc, od, .func (PySem.W.fnOf name qual params body scope dV kV doc pm an cdv ct), osl⟩) (hcd : PySem.W.codeIn K cdv qual = true) (Sc : FnScope N ps scope) (len : ∀ h vs H Q E, sp h vs H Q E → vs.length = ps.length)
    (hb : ∀ (A : Around) (outer : List Env) (s : Shared) (H : Hp) (vs : List V) (Q : VK) (E : XK), RoomX j (A.deeper (envOfC qual scope s.heap.objs.size f cdv)) → A.guards = some [] → sp s.heap vs H Q E →
      ∃ t, PSs (cxOf (L2.CX pg w) pg w K mg base N qual scope f cdv A outer s H E) body t ∧ t { nx := fun _ H' => Q .non H', rt := Q } (start N vs) H) :
    GOk pg w K mg base (j + 1) f (PySem.W.fnOf name qual params body scope dV kV doc pm an cdv ct) ps sp := by
  constructor
  · exact len
  intro A outer s H args us vs Q E room gu e0 bnd rel pre
  have hlen : vs.length = ps.length := len _ vs H Q E pre
  have inn : K.In s.heap := PySem.W.Frag.In.keeps e0.mod.kin fun b o e => (e0.bs b o e).left
  have nolim : s.heap.NoLimit := Heap.NoLimit.keeps e0.mod.nolimit fun b o e => (e0.bs b o e).left
  have kinds : ∀ y ∈ ps.zip us, scope.names.lookup y.1 = some .local ∨ (scope.names.lookup y.1 = some .cell ∧ ((cellsFrom (s.heap.objs.size + 1) scope.names []).lookup y.1).isSome = true) := by
    rintro ⟨n, v⟩ hy
    cases Sc.par n (List.of_mem_zip hy).left with
    | inl q => exact .inl q
    | inr q => exact .inr ⟨q, PySem.W.cellsFrom_some _ _ _ (.inl q)⟩
  refine codeAny_call_function room.depth (inn f _ lk) rfl Sc.co Sc.gen rfl (PySem.W.codeRec_of inn hcd) (bnd _ _ _ _ (wpAny_newFunctionEnv_cells Sc.kind kinds ?_))
  rintro env rfl s1 x
  refine ⟨nolim.keeps x.toInCall.keep, codeAny_func ?_⟩
  obtain ⟨t, body_ok, start_ok⟩ := hb A outer s H vs Q E (RoomX.of room _) gu pre
  have inv : Inv (cxOf (L2.CX pg w) pg w K mg base N qual scope f cdv A outer s H E) [] (start N vs) H s1 := inv_start Sc room.hd e0 hlen rel x
  have back : ∀ {σ' : Ls} {H' : Hp} {v : V} {u : Value} {s' : Shared}, Inv (cxOf (L2.CX pg w) pg w K mg base N qual scope f cdv A outer s H E) [] σ' H' s' → RelV v u → Q v H' → CE outer pg w H s Q u s' := by
    intro σ' H' v u s' J rv q
    exact ⟨v, H', J.os, J.bare, J.base, J.hok, rv, q⟩
  refine wpAny_mono (body_ok.run [] s1 (start N vs) H _ inv start_ok) ?_ fun e s' hs => hs
  intro fl s' hs
  match fl, hs with
  | .ret u, ⟨v, σ', H', J, rv, q⟩ => exact back J rv q
  | .next, ⟨σ', H', J, q⟩ => exact back (v := V.non) (u := Value.none) J rfl q
  | .brk, ⟨_, _, _, q⟩ => exact q.elim
  | .cont, ⟨_, _, _, q⟩ => exact q.elim
theorem GOk.mono {i j : Nat} {f : Addr} {fd : FuncData} {ps : List Str} {sp : Heap → Sp} (F : GOk pg w K mg base i f fd ps sp) (h : i ≤ j) : GOk pg w K mg base j f fd ps sp :=
  ⟨F.len, fun A outer s H args us vs Q E hr => F.go A outer s H args us vs Q E (hr.mono h)⟩
end
section
variable {X : Cx} {j : Nat} {f : Addr} {fd : FuncData} {ps : List Str} {sp : Heap → Sp} {E : Ls → XK} {x : Str} {p pos : Pos} {e : Expr} {es : List Expr} {t : L2.TA} {dvs : List V} {ds : List Value}
theorem run_g {pins : List (Addr × Obj)} {σ : Ls} {H : Hp} {s : Shared} {Q : VK} {us : List Value} {vs : List V} (F : GOk X.prog X.w X.K X.mg X.base j f fd ps sp) (hr : Room j X.A) (hg : X.A.guards = some []) (hb : Binds X.K fd ps ds) (hd : Vals dvs ds)
    (hx : PassesAt (L2.CX X.prog X.w) X σ (E σ)) (I : Inv X pins σ H s) (r : Vals vs us) (h : sp s.heap (vs ++ dvs) H Q (E σ)) : wpAny (model X.prog X.w) X.A (call (.ref f) us) (EP X pins σ Q) X.xe s := by
  have rr := r.append hd
  have len2 : (us ++ ds).length = ps.length := rr.length.symm.trans (F.len _ _ _ _ _ h)
  refine wpAny_call (codeAny_mono (F.go X.A X.stack s H ⟨us, []⟩ (us ++ ds) (vs ++ dvs) Q (E σ) hr hg I.env0 (hb s us I.kIn len2) rr h) ?_)
  intro r s' q
  match r, q with
  | .error e, q => exact hx pins H s e s' I q
  | .ok (.ret u), q => exact I.after q
  | .ok .next, q => exact q.elim
  | .ok .brk, q => exact q.elim
  | .ok .cont, q => exact q.elim
/-- behind the arguments, told of the very state -/
abbrev GQ := Ls → List V → Hp → VK → Prop
def Conv (X : Cx) (sp : Heap → Sp) (dvs : List V) (E : Ls → XK) (Gq : GQ) : Prop := ∀ (pins : List (Addr × Obj)) (s : Shared) (σ : Ls) (vs : List V) (H : Hp) (Q : VK), Inv X pins σ H s → Gq σ vs H Q → sp s.heap (vs ++ dvs) H Q (E σ)
def tGc (Gq : GQ) (t : L2.TA) : TE := fun σ H Q => t σ H fun vs H1 => Gq σ vs H1 Q
theorem pe_g {Gq : GQ} (F : GOk X.prog X.w X.K X.mg X.base j f fd ps sp) (hr : Room j X.A) (hgu : X.A.guards = some []) (hg : Gl X x) (hm : X.mg x = some (.ref f)) (hk : PySem.W.keepIn X.K (.ref f) = true) (hb : Binds X.K fd ps ds) (hd : Vals dvs ds)
    (hx : ∀ σ, PassesAt (L2.CX X.prog X.w) X σ (E σ)) (cv : Conv X sp dvs E Gq) (ha : PA X (e :: es) t) (hdb : (x == ("__debug__" : Str)) = false) (he : starEach (e :: es) X.env = (false, eval e X.env) :: starEach es X.env) (hpl : (backTo pos (starEach es X.env)).any (·.1) = false) :
    PE X (.Call (.Name x p) (e :: es) [] pos) (tGc Gq t) :=
  ⟨fun pins s σ H Q I h => wpAny_Call_Name_kw (ld_glob I hg hm (PySem.W.callWith_K (h₀ := X.base) I.ok.mod.kin hk (thn (ha.run pos pins s σ H _ I h) fun us s1 ⟨vs, H1, I1, r, q⟩ => ⟨I1.kIn, run_g F hr hgu hb hd (hx σ) I1 r (cv _ _ _ _ _ _ I1 q)⟩) he hpl) hdb)⟩
theorem pe_g0 {Gq : GQ} (F : GOk X.prog X.w X.K X.mg X.base j f fd ps sp) (hr : Room j X.A) (hgu : X.A.guards = some []) (hg : Gl X x) (hm : X.mg x = some (.ref f)) (hk : PySem.W.keepIn X.K (.ref f) = true) (hb : Binds X.K fd ps ds) (hd : Vals dvs ds)
    (hx : ∀ σ, PassesAt (L2.CX X.prog X.w) X σ (E σ)) (cv : Conv X sp dvs E Gq) (hdb : (x == ("__debug__" : Str)) = false) : PE X (.Call (.Name x p) [] [] pos) (tGc Gq tNil) :=
  ⟨fun pins s σ H Q I h => wpAny_Call_Name_kw (ld_glob I hg hm (PySem.W.callWith_K0 I.kIn hk (run_g (us := []) F hr hgu hb hd (hx σ) I .nil (cv _ _ _ _ _ _ I h))) hdb)⟩
end

/-! ### the promise by the evaluator -/
def spD (kk : Kg) (j np : Nat) (run : List D → Sto → R D) : Heap → Sp := fun h vs H Q E => vs.length = np ∧ ∃ (k : Ka) (g : Gs) (ds : List D) (S : Sto), k.toKg = kk ∧ j ≤ k.fr ∧ (∀ m, m < k.fr → k.fc m = none) ∧ k.h0 = h ∧ k.H0 = H ∧ k.ex = [] ∧ k.me = none ∧
  RS k g H S ∧ RDs k g H vs ds ∧ Bk k (fun c d _ H => E c d H) [] g H (run ds S) fun d _ g' H' => ∀ v, RD k g' H' v d → Q v H'
section
variable {X : Cx} {k : Ka} {W : WX} {cal : Nat → List D → Sto → R D} {g g1 : Gs} {H H1 : Hp} {S : Sto} {σ : Ls}
theorem Gs.alone_rs (rs : RS k g H S) : RS k ⟨g.M, []⟩ H [] where
  len := rfl
  nd := List.nodup_nil
  fl := fun a z => z.elim (rs.fl a) fun z => by
    obtain ⟨_, _, _, _, _, e, _⟩ := rs.live z
    exact ⟨_, e, trivial⟩
  dj := fun a z => by cases z
  cell := fun n a ds e _ => by cases n <;> cases e
  tabs := rs.tabs
  pu := fun n ds e => by cases n <;> cases e
theorem RF.gp {k : Kg} {F : List (Str × V)} {fs : List (Str × P)} (x : Gp g H g1 H1) (h : RF k g H F fs) : RF k g1 H1 F fs := by
  induction h with
  | nil => exact .nil
  | cons r _ ih => exact .cons (r.gp x) ih
theorem allP_map : ∀ {ds : List D} {ps : List P}, allP ds = some ps → ds = ps.map .p
  | [], ps, e => by
    have : ps = [] := by simpa [allP] using e.symm
    subst this; rfl
  | .p z :: ds, ps, e => by
    unfold allP at e
    obtain ⟨qs, h1, h2⟩ := Option.map_eq_some_iff.mp e
    rw [← h2, allP_map h1]; rfl
  | .ref _ :: ds, ps, e => by simp [allP] at e
  | .lam .. :: ds, ps, e => by simp [allP] at e
  | .clo .. :: ds, ps, e => by simp [allP] at e
  | .dead :: ds, ps, e => by simp [allP] at e
  | .me :: ds, ps, e => by simp [allP] at e
  | .lams .. :: ds, ps, e => by simp [allP] at e
theorem RC.alo {k : Kg} (y : Gp g H g1 H1) {ws : List (Option V)} {cs : List (Sum P Nat)} (h : RC k g H ws cs) : cs.all capP = true → RC k g1 H1 ws cs := by
  induction h with
  | nil => exact fun _ => .nil
  | @cons v vs c cs a _ ih =>
    intro e
    rw [List.all_cons, Bool.and_eq_true] at e
    refine .cons ?_ (ih e.2)
    cases c with
    | inl x => exact RP.gp y a
    | inr n => cases e.1
theorem RDs.alo (y : Gp g H g1 H1) : ∀ {ds : List D} {vs : List V}, ds.all aloD = true → RDs k g H vs ds → RDs k g1 H1 vs ds
  | [], _, _, h => by cases h; exact .nil
  | d :: ds, _, e, h => by
    rw [List.all_cons, Bool.and_eq_true] at e
    cases h with
    | cons a b =>
      refine .cons ?_ (RDs.alo y e.2 b)
      cases d with
      | p x => exact RP.gp y a
      | clo f cs =>
        obtain ⟨a, t, cl, ws, h2, h4, h5, h6⟩ := a
        exact ⟨a, t, cl, ws, h2, h4.gp y, h5, h6.alo y e.1⟩
      | ref n => cases e.1
      | lam _ _ _ => cases e.1
      | dead => cases e.1
      | me => cases e.1
      | lams _ _ => cases e.1
theorem callS_bk {f : Nat} {ds : List D} {W : WX} {Q : VK} (b : Bk k W σ g H (callS cal f ds S) fun d _ g' H' => ∀ v, RD k g' H' v d → Q v H') : Bk k (fun c d _ H => WE W σ c d H) [] g H (cal f ds S) fun d _ g' H' => ∀ v, RD k g' H' v d → Q v H' := by
  unfold callS at b
  cases q : cal f ds S with
  | ok d S' =>
    rw [q] at b
    dsimp only at b
    split at b
    · exact b
    · exact b.elim
  | ex z S' => rw [q] at b; exact b
  | bad => rw [q] at b; exact b
/-- a def is called: alone or with the store -/
theorem call_go {f : Nat} {ds : List D} {vs : List V} {Q : VK} {W : WX} (rs : RS k g H S) (rv : RDs k g H vs ds) (b : Bk k W σ g H (callD cal f ds S) fun d _ g' H' => ∀ v, RD k g' H' v d → Q v H') :
    ∃ g0 S0, RS k g0 H S0 ∧ RDs k g0 H vs ds ∧ Bk k (fun c d _ H => WE W σ c d H) [] g0 H (cal f ds S0) fun d _ g' H' => ∀ v, RD k g' H' v d → Q v H' := by
  unfold callD at b
  split at b
  · rename_i ea
    have y : Gp g H ⟨g.M, []⟩ H := ⟨fun _ _ h _ _ => h, fun a o _ _ n z => n (z.elim id fun q => nomatch q)⟩
    have tog : ∀ {g' : Gs} {H' : Hp}, Ext ⟨g.M, []⟩ H g' H' → Ext g H g H' := fun {g' H'} x => ⟨rfl, ⟨[], by simp, fun _ z => nomatch z⟩, fun a o h t _ => x.keep a o h t (fun z => nomatch z), x.live⟩
    have rsg : ∀ {g' : Gs} {H' : Hp} {S' : Sto}, Ext ⟨g.M, []⟩ H g' H' → RS k g' H' S' → RS k g H' S := fun {g' H' S'} x r' => rs.grown (tog x) r'.tabs fun a ha => by
      obtain ⟨_, _, _, _, _, e, _⟩ := rs.live ha
      rw [e]; exact x.keep a _ e trivial (fun z => nomatch z)
    have bk : ∀ {g' : Gs} {H' : Hp}, Ext ⟨g.M, []⟩ H g' H' → Gp g' H' g H' := fun {g' H'} x => ⟨fun _ _ h _ _ => h, fun a o _ _ n z => n (.inl (by rw [x.F]; exact z))⟩
    have alone : ∀ {r : R D}, cal f ds [] = r → Bk k (fun c d _ H => WE W σ c d H) [] ⟨g.M, []⟩ H r (fun d _ g' H' => ∀ v, RD k g' H' v d → Q v H') → ∃ g0 S0, RS k g0 H S0 ∧ RDs k g0 H vs ds ∧ Bk k (fun c d _ H => WE W σ c d H) [] g0 H (cal f ds S0) fun d _ g' H' => ∀ v, RD k g' H' v d → Q v H' := by
      intro r e z
      exact ⟨⟨g.M, []⟩, [], Gs.alone_rs rs, rv.alo y ea, by rw [e]; exact z⟩
    cases q : cal f ds [] with
    | ok d S' =>
      rw [q] at b
      cases d with
      | ref n => exact ⟨g, S, rs, rv, callS_bk b⟩
      | p z =>
        refine alone q ?_
        intro g' H' x rs' v r
        exact b g H' (tog x) (rsg x rs') v (RP.gp (bk x) r)
      | lam _ _ _ => exact b.elim
      | clo _ _ => exact b.elim
      | dead => exact b.elim
      | me => exact b.elim
      | lams _ _ => exact b.elim
    | ex z S' =>
      rw [q] at b
      refine alone q ?_
      intro g' H' cls dd x rs' rx
      obtain ⟨C, h1, h2, h3⟩ := rx
      exact b g H' cls dd (tog x) (rsg x rs') ⟨C, h1, h2, h3.imp id fun ⟨a, vs, q1, q2, q3, q4, q5⟩ => ⟨a, vs, q1, q2, fun z => q3 (.inl (by rw [x.F]; exact z)), q4.gp (bk x), q5⟩⟩
    | bad => rw [q] at b; exact b.elim
  · exact ⟨g, S, rs, rv, callS_bk b⟩
theorem callD_end {f : Nat} {ds : List D} {d : D} {S' : Sto} (h : callD cal f ds S = .ok d S') : endD d = true := by
  have sh : ∀ {d S'}, callS cal f ds S = .ok d S' → endD d = true := by
    intro d S' h
    unfold callS at h
    split at h
    · split at h
      · cases h; assumption
      · cases h
    · rename_i h0
      exact (h0 _ _ h).elim
  unfold callD at h
  split at h
  · split at h
    · cases h; rfl
    · exact sh h
    · cases h
    · cases h
    · cases h
  · exact sh h
/-- the same, told in another context -/
theorem Bk.ctx {k' : Ka} {r : R D} {W : WX} {Q : VK} (e : k.toKg = k'.toKg) (f1 : ∀ n x, k'.fc n = some x → k.fc n = some x) (he : ∀ d S', r = .ok d S' → endD d = true) (b : Bk k W σ g H r fun d _ g' H' => ∀ v, RD k g' H' v d → Q v H') :
    Bk k' W σ g H r fun d _ g' H' => ∀ v, RD k' g' H' v d → Q v H' := by
  cases r with
  | ok d S' =>
    intro g' H' x rs v rv
    refine b g' H' x (rs.ctx e.symm f1) v (rv.ctx e.symm f1 ?_)
    have := he d S' rfl
    cases d <;> first | rfl | cases this
  | ex z S' => exact fun g' H' cls dd x rs rx => b g' H' cls dd x (rs.ctx e.symm f1) (rx.ctx e.symm)
  | bad => exact b
variable {j : Nat} {f : Addr} {fd : FuncData} {ps : List Str} {x : Str} {p pos : Pos} {e : Expr} {es : List Expr} {dvs : List V} {dps : List P} {uds : List Value} {G : Prog} {i : Nat}
/-- behind the arguments of a call -/
def FinC (k : Ka) (W : WX) (np : Nat) (run : Loc → List D → Sto → R D) (dvs : List V) : GQ := fun σ vs H Q => (vs ++ dvs).length = np ∧ ∃ g L S ds, RS k g H S ∧ RL k g H σ L ∧ RDs k g H (vs ++ dvs) ds ∧ Bk k W σ g H (run L ds S) fun d _ g' H' => ∀ v, RD k g' H' v d → Q v H'
theorem conv_R {np : Nat} (F : KF X k) (lo : ∀ m, m < k.fr → k.fc m = none) (hj : j ≤ k.fr) : Conv X (spD k.toKg j np (cal i)) dvs (WE W) (FinC k W np (fun L ds S => callR cal k.fr L i ds S) dvs) := by
  rintro pins s σ vs H Q I ⟨hl, g, L, S, ds, rs, rl, rv, b⟩
  unfold callR at b
  dsimp only at b
  split at b
  · rename_i ds' e
    have rv' := ress_ok F I rl e rv
    have b' := Bk.ctx (k := k) (k' := atX k s.heap H) rfl (fun _ _ z => z) (fun d S' z => callD_end z) b
    obtain ⟨g0, S0, q1, q2, q3⟩ := call_go (RS.ctx (k := k) (k' := atX k s.heap H) rfl (fun _ _ z => z) rs) rv' b'
    exact ⟨hl, atX k s.heap H, g0, ds', S0, rfl, hj, lo, rfl, rfl, rfl, rfl, q1, q2, q3⟩
  · exact b.elim
theorem conv_B {np : Nat} (lo : ∀ m, m < k.fr → k.fc m = none) (hj : j ≤ k.fr) : Conv X (spD k.toKg j np (cal i)) dvs (WE W) (FinC k W np (fun _ ds S => callB cal i ds S) dvs) := by
  rintro pins s σ vs H Q I ⟨hl, g, L, S, ds, rs, rl, rv, b⟩
  unfold callB at b
  dsimp only at b
  split at b
  · rename_i e
    have rv' := pures_at (h := s.heap) (H' := H) e rv
    have b' := Bk.ctx (k := k) (k' := atX k s.heap H) rfl (fun _ _ z => z) (fun d S' z => callD_end z) b
    obtain ⟨g0, S0, q1, q2, q3⟩ := call_go (RS.ctx (k := k) (k' := atX k s.heap H) rfl (fun _ _ z => z) rs) rv' b'
    exact ⟨hl, atX k s.heap H, g0, ds, S0, rfl, hj, lo, rfl, rfl, rfl, rfl, q1, q2, q3⟩
  · exact b.elim
theorem evs_app (s : Ev) : ∀ (a b : List E) (L : Loc) (S : Sto), evs s (a ++ b) L S = (evs s a L S).bind fun ds S1 => (evs s b L S1).bind fun ds' S2 => .ok (ds ++ ds') S2
  | [], b, L, S => by
    show evs s b L S = (evs s b L S).bind fun ds' S2 => .ok ([] ++ ds') S2
    cases evs s b L S <;> rfl
  | x :: a, b, L, S => by
    show ((s.e x L S).bind fun d S1 => (evs s (a ++ b) L S1).bind fun ds S2 => .ok (d :: ds) S2) = (((s.e x L S).bind fun d S1 => (evs s a L S1).bind fun ds S2 => .ok (d :: ds) S2).bind fun ds S1 => (evs s b L S1).bind fun ds' S2 => .ok (ds ++ ds') S2)
    rw [R.bind_assoc]
    congr 1
    funext d S1
    rw [evs_app s a b L S1, R.bind_assoc, R.bind_assoc]
    congr 1
    funext ds S2
    rw [R.bind_assoc]
    show _ = (evs s b L S2).bind _
    congr 1
theorem evs_k {fr : Nat} (n : Nat) : ∀ (qs : List P) (L : Loc) (S : Sto), evs (ev G cal fr n) (qs.map .k) L S = .ok (qs.map .p) S ∨ evs (ev G cal fr n) (qs.map .k) L S = .bad
  | [], L, S => .inl rfl
  | q :: qs, L, S => by
    cases n with
    | zero => exact .inr rfl
    | succ n =>
      have e : evs (ev G cal fr (n + 1)) ((q :: qs).map .k) L S = (evs (ev G cal fr (n + 1)) (qs.map .k) L S).bind fun ds S2 => .ok (.p q :: ds) S2 := rfl
      rw [e]
      rcases evs_k (n + 1) qs L S with h | h
      · rw [h]; exact .inl rfl
      · rw [h]; exact .inr rfl
theorem RDs.ofMap : ∀ {qs : List P} {vs : List V}, RDs k g H vs (qs.map .p) → RPs k.toKg g H vs qs
  | [], _, h => by cases h; exact .nil
  | q :: qs, _, h => by
    cases h with
    | cons a b => exact .cons a (RDs.ofMap b)
/-- dvs stand for dps anywhere -/
def KPs (k : Kg) (dvs : List V) (dps : List P) : Prop := ∀ g H, RPs k g H dvs dps
theorem evs_len (s : Ev) : ∀ {es : List E} {L : Loc} {S S' : Sto} {ds : List D}, evs s es L S = .ok ds S' → ds.length = es.length
  | [], L, S, S', ds, h => by
    have h : (R.ok [] S : R (List D)) = .ok ds S' := h
    cases h; rfl
  | e :: es, L, S, S', ds, h => by
    obtain ⟨d, S1, _, h⟩ := R.bind_ok h
    obtain ⟨r, S2, h1, h⟩ := R.bind_ok h
    cases h
    exact congrArg (· + 1) (evs_len s h1)
theorem Bk.impE {α : Type} {W : WX} {σ : Ls} {g : Gs} {H : Hp} {r : R α} {Q Q' : α → Sto → Gs → Hp → Prop} (h : Bk k W σ g H r Q) (i : ∀ a S g' H', r = .ok a S → Ext g H g' H' → RS k g' H' S → Q a S g' H' → Q' a S g' H') : Bk k W σ g H r Q' := by
  cases r with
  | ok a S => exact fun g' H' y rs => i a S g' H' rfl y rs (h g' H' y rs)
  | ex z S => exact h
  | bad => exact h
theorem call_core {n fr : Nat} {es' : List E} {run : Loc → List D → Sto → R D} (hd : KPs k.toKg dvs dps) {σ : Ls} {H : Hp} {Q : VK}
    (h : rdE k W (fun L S => (evs (ev G cal fr n) (es' ++ dps.map .k) L S).bind fun ds S1 => run L ds S1) σ H Q) : rdA k W (evs (ev G cal fr n) es') σ H fun vs H1 => FinC k W (es'.length + dps.length) run dvs σ vs H1 Q := by
  obtain ⟨g, L, S, rl, rs, b⟩ := h
  dsimp only at b
  rw [evs_app, R.bind_assoc] at b
  refine ⟨g, L, S, rl, rs, b.bind.impE fun ds S1 g1 H1 e0 e1 rs1 b1 vs rv => ?_⟩
  rcases evs_k (G := G) (cal := cal) (fr := fr) n dps L S1 with z | z
  · rw [z] at b1
    have b1 : Bk k W σ g1 H1 (run L (ds ++ dps.map .p) S1) fun d _ g' H' => ∀ v, RD k g' H' v d → Q v H' := b1
    exact ⟨by rw [List.length_append, rv.length, evs_len _ e0, (hd g1 H1).length], g1, L, S1, _, rs1, rl.mono e1, rv.append ((hd g1 H1).toD), b1⟩
  · rw [z] at b1; exact b1.elim
theorem se_callG {n fr np : Nat} {es' : List E} {run : Loc → List D → Sto → R D} {sp : Heap → Sp} (F : GOk X.prog X.w X.K X.mg X.base j f fd ps sp) (cv : Conv X sp dvs (WE W) (FinC k W np run dvs)) (hr : Room j X.A) (hgu : X.A.guards = some []) (tk : Takes X W) (hg : Gl X x) (hm : X.mg x = some (.ref f)) (hk : PySem.W.keepIn X.K (.ref f) = true)
    (hb : Binds X.K fd ps uds) (hdv : Vals dvs uds) (hd : KPs k.toKg dvs dps) (hdb : (x == ("__debug__" : Str)) = false) (hst : es.all noStar = true) (ha : PA X es (rdA k W (evs (ev G cal fr n) es'))) (hl : es'.length + dps.length = np) (hnil : es = [] → es' = []) :
    PE X (.Call (.Name x p) es [] pos) (rdE k W (fun L S => (evs (ev G cal fr n) (es' ++ dps.map .k) L S).bind fun ds S1 => run L ds S1)) := by
  have core : ∀ σ H Q, rdE k W (fun L S => (evs (ev G cal fr n) (es' ++ dps.map .k) L S).bind fun ds S1 => run L ds S1) σ H Q → tGc (FinC k W np run dvs) (rdA k W (evs (ev G cal fr n) es')) σ H Q := fun σ H Q h => by
    have q := call_core hd h
    rw [hl] at q
    exact q
  cases es with
  | nil =>
    refine PE.imp (pe_g0 F hr hgu hg hm hk hb hdv (fun σ => passAt tk σ) cv hdb) fun σ H Q h => ?_
    obtain ⟨g, L, S, rl, rs, b⟩ := core σ H Q h
    rw [hnil rfl] at b
    have q := Bk.here (show Bk k W σ g H (.ok [] S) _ from b) rs [] .nil
    exact q
  | cons e es =>
    rw [List.all_cons, Bool.and_eq_true] at hst
    exact PE.imp (pe_g F hr hgu hg hm hk hb hdv (fun σ => passAt tk σ) cv ha hdb (star_of hst.1 es X.env) (noStars hst.2 X.env pos)) core
theorem se_call {n np : Nat} {es' : List E} (Kf : KF X k) (lo : ∀ m, m < k.fr → k.fc m = none) (hj : j ≤ k.fr) (F : GOk X.prog X.w X.K X.mg X.base j f fd ps (spD k.toKg j np (cal i))) (hr : Room j X.A) (hgu : X.A.guards = some []) (tk : Takes X W) (hg : Gl X x) (hm : X.mg x = some (.ref f)) (hk : PySem.W.keepIn X.K (.ref f) = true)
    (hb : Binds X.K fd ps uds) (hdv : Vals dvs uds) (hd : KPs k.toKg dvs dps) (hdb : (x == ("__debug__" : Str)) = false) (hst : es.all noStar = true) (ha : PA X es (rdA k W (evs (ev G cal k.fr n) es'))) (hl : es'.length + dps.length = np) (hnil : es = [] → es' = []) :
    PE X (.Call (.Name x p) es [] pos) (rdE k W (evE cal k.fr (ev G cal k.fr n) (.call i (es' ++ dps.map .k)))) := se_callG F (conv_R Kf lo hj) hr hgu tk hg hm hk hb hdv hd hdb hst ha hl hnil
theorem se_callB {n np : Nat} {es' : List E} (lo : ∀ m, m < k.fr → k.fc m = none) (hj : j ≤ k.fr) (F : GOk X.prog X.w X.K X.mg X.base j f fd ps (spD k.toKg j np (cal i))) (hr : Room j X.A) (hgu : X.A.guards = some []) (tk : Takes X W) (hg : Gl X x) (hm : X.mg x = some (.ref f)) (hk : PySem.W.keepIn X.K (.ref f) = true)
    (hb : Binds X.K fd ps uds) (hdv : Vals dvs uds) (hd : KPs k.toKg dvs dps) (hdb : (x == ("__debug__" : Str)) = false) (hst : es.all noStar = true) (ha : PA X es (rdA k W (evs (ev G cal k.fr n) es'))) (hl : es'.length + dps.length = np) (hnil : es = [] → es' = []) :
    PE X (.Call (.Name x p) es [] pos) (rdE k W (evE cal k.fr (ev G cal k.fr n) (.callB i (es' ++ dps.map .k)))) := se_callG (run := fun _ ds S => callB cal i ds S) F (conv_B lo hj) hr hgu tk hg hm hk hb hdv hd hdb hst ha hl hnil
end
end Mn
/-! Mr5: lambdas of the text; what they promise; a name's call. -/
namespace Mn
open L2 PyProof.Rows PySem.Spec PySem
theorem cloFrom_none {cells : List (Str × Addr)} : ∀ {names : List (Str × NameKind)} {acc : List (Str × Addr)}, (∀ y ∈ names, y.2 ≠ .free) → cloFrom cells names acc = acc
  | [], acc, _ => rfl
  | (n, kd) :: r, acc, h => by
    have h1 : (kd == NameKind.free) = false := by
      cases q : (kd == NameKind.free) with
      | false => rfl
      | true => exact absurd (eq_of_beq q) (h (n, kd) List.mem_cons_self)
    unfold cloFrom
    rw [h1]
    exact cloFrom_none fun y hy => h y (List.mem_cons_of_mem _ hy)
section
variable {X : Cx} {k : Ka} {W : WX} {cal : Nat → List D → Sto → R D} {s : Ev} {g : Gs} {H H1 : Hp} {S : Sto}
/-- the code object's table of the running def -/
def TbF (X : Cx) (k : Ka) : Prop := ∃ c tb, X.env.code = .ref c ∧ LamX.TabB X.base X.mg c tb ∧ (tb, X.env.qual ++ "<lambda>") ∈ k.T ∧ ∀ p ∈ k.T, p.1 = tb → p.2 = X.env.qual ++ "<lambda>"
theorem ExtN.ext (e : LamX.ExtN H H1) (n : ∀ b, H1 b = Option.none → H b = Option.none) : Ext g H g H1 :=
  ⟨rfl, ⟨[], by simp, fun _ z => nomatch z⟩, fun a o h t _ => e a o h (nT_ne t), fun a o h => by
    cases q : H1 a with
    | none => rw [n a q] at h; cases h
    | some u => exact ⟨u, rfl⟩⟩
theorem ExtN.rs (rs : RS k g H S) (e : LamX.ExtN H H1) (n : ∀ b, H1 b = Option.none → H b = Option.none) (tb : LamX.Tabs k.T H1) : RS k g H1 S :=
  rs.grown (ExtN.ext e n) tb fun a ha => by
    obtain ⟨_, _, _, _, _, q, _⟩ := rs.live ha
    rw [q]
    exact e a _ q (nT_ne trivial)
theorem se_lam {f : Nat} {sl : List Nat} {t : LamT} {pos : Pos} (F : KF X k) (TF : TbF X k) (hlt : k.lt f = some t) (hq : t.qual = X.env.qual ++ "<lambda>") (hdef : defaultsOf t.params X.env = ([], [])) (hsl : sl.map (fun j => X.N[j]?) = t.fr.map some) (hnd : NdefX.ndefB X.env.scope t.scope t.fr = true)
    (hfr : ∀ y ∈ t.scope.names, y.2 = .free → y.1 ∈ t.fr) : PE X (.Lambda t.params t.body t.scope pos) (rdE k W (evE cal k.fr s (.lam f sl))) := by
  constructor
  intro pins st σ H Q I h
  obtain ⟨g, L, S, rl, rs, b⟩ := h
  obtain ⟨c, tb, h1, h2, h3, h4⟩ := TF
  rw [← hq] at h3 h4
  refine lam_mk I h2 h1 hq h3 h4 rs.tabs hdef (fun y hy e => (NdefX.ndef_free hnd y hy e).elim (fun z => I.ok.has _ (.inl z)) fun z => I.ok.has _ (.inr z)) ?_
  intro f0 c' H1 s' I1 en nn tabs e1 e2
  have x1 : Ext g H g H1 := ExtN.ext en nn
  have rs1 := ExtN.rs rs en nn tabs
  have la : LamAt k.toKg g H1 f0 f t (cloFrom X.env.cells t.scope.names []) := ⟨hlt, c', e1, rs1.notX e1, e2, rs1.notX e2⟩
  refine ⟨.ref f0, H1, I1, rfl, ?_⟩
  cases sl with
  | nil =>
    have hz : t.fr = [] := by
      have := congrArg List.length hsl
      rw [List.map_nil, List.length_map] at this
      exact List.length_eq_zero_iff.mp this.symm
    rw [cloFrom_none fun y hy e => by
      have := hfr y hy e
      rw [hz] at this
      cases this] at la
    exact (show Want k g H S (.p (.lamc f)) Q from b) g H1 x1 rs1 _ (RP.lamc la hz)
  | cons i sl =>
    exact (show Want k g H S (.lam f (i :: sl) k.fr) Q from b) g H1 x1 rs1 _ ⟨f0, t, _, _, _, rfl, F.fc, la, hsl, hnd⟩
end
/-! ### what a lambda promises -/
/-- what its captured cells hold is handed on behind its arguments -/
def spL (kk : Kg) (j : Nat) (run : List D → Sto → R D) (h : Heap) (vs : List V) (ws : List (Option V)) (H : Hp) (Q : VK) (E : XK) : Prop := ∃ (k : Ka) (g : Gs) (ds : List D) (cs : List (Sum P Nat)) (S : Sto), k.toKg = kk ∧ j ≤ k.fr ∧ (∀ m, m < k.fr → k.fc m = none) ∧ k.h0 = h ∧ k.H0 = H ∧ k.ex = [] ∧ k.me = none ∧
  RS k g H S ∧ RDs k g H vs ds ∧ RC kk g H ws cs ∧ Bk k (fun c d _ H => E c d H) [] g H (run (ds ++ cs.map capV) S) fun d _ g' H' => ∀ v, RD k g' H' v d → Q v H'
structure LOk (pg : Program) (w : World) (K : PySem.W.Frag) (mg : Str → Option Value) (base : Heap) (kk : Kg) (j : Nat) (t : LamT) (run : List D → Sto → R D) : Prop where
  go : ∀ (A : Around) (outer : List Env) (s : Shared) (H : Hp) (us : List Value) (vs : List V) (ws : List (Option V)) (Q : VK) (E : XK) (a c : Addr) (cl : List (Str × Addr)), Room j A → A.guards = some [] → Env0 pg w K mg base A outer s H → H a = some (FnL a t cl c) → H c = some (LamX.CodeO c t.qual) →
    NdefX.CellsAt cl t.fr ws s.heap H → Vals vs us → spL kk j run s.heap vs ws H Q E → codeAny (model pg w) A (.call (.ref a) ⟨us, []⟩) (CR (L2.CX pg w) outer pg w H s Q E) s
/-- its names for the layer -/
abbrev nfL (t : LamT) (cl : List (Str × Addr)) (c : Addr) : NdefX.NF := ⟨"<lambda>", t.qual, t.params, [], t.scope, cl, c⟩
theorem fnL_at {pg : Program} {w : World} {H : Hp} {h : Heap} {a c : Addr} {t : LamT} {cl : List (Str × Addr)} (ok : HOk pg w H h) (e : H a = some (FnL a t cl c)) : ∃ pm ctv : Value, h.get? a = some (PySem.W.kla_obj "<lambda>" t.qual t.params t.body t.scope cl pm c ctv) := by
  obtain ⟨z, _, _⟩ := ok a _ e
  exact z
/-- by its body -/
theorem lok_of {pg : Program} {w : World} {K : PySem.W.Frag} {mg : Str → Option Value} {base : Heap} {kk : Kg} {j : Nat} {t : LamT} {run : List D → Sto → R D} {N : List Str} (Sc : NdefX.NScope N t.ps t.fr t.scope)
    (hbind : ∀ (cl : List (Str × Addr)) (pm cv ctv : Value) (us : List Value), us.length = t.ps.length → bindArgs (PySem.W.kla_fn "<lambda>" t.qual t.params t.body t.scope cl pm cv ctv) ⟨us, []⟩ = pure (t.ps.zip us))
    (len : ∀ h vs ws H Q E, ws.length = t.fr.length → spL kk (j + 1) run h vs ws H Q E → vs.length = t.ps.length)
    (hb : ∀ (A : Around) (outer : List Env) (s : Shared) (H : Hp) (vs : List V) (ws : List (Option V)) (Q : VK) (E : XK) (a c : Addr) (cl : List (Str × Addr)), RoomX j (A.deeper (NdefX.envF (nfL t cl c) a s.heap.objs.size)) → A.guards = some [] → ws.length = t.fr.length → spL kk (j + 1) run s.heap vs ws H Q E →
      ∃ r, PE (NdefX.ncx (L2.CX pg w) pg w K mg base N (nfL t cl c) a A outer s H E) t.body r ∧ r (NdefX.startF N vs ws) H Q) :
    LOk pg w K mg base kk (j + 1) t run := by
  constructor
  intro A outer s H us vs ws Q E a c cl room gu e0 ha hc C rv pre
  have hl := len _ _ _ _ _ _ C.len pre
  have lim : s.heap.NoLimit := Heap.NoLimit.keeps e0.mod.nolimit fun b o e => (e0.bs b o e).left
  obtain ⟨pm, ctv, ho⟩ := fnL_at e0.hok ha
  refine PySem.W.kla_callFunE room.depth ho rfl Sc.co Sc.gen rfl (NdefX.codeO_at e0.hok hc) ?_
  rw [hbind _ _ _ _ us (by rw [← rv.length]; exact hl)]
  refine wpAny_pure (wpAny_newFunctionEnv Sc.nocell (fun ⟨n, _⟩ hy => Sc.par n (List.of_mem_zip hy).1) (fun h₁ hns hsb => ⟨lim.fresh _ hsb, ?_⟩) Sc.kind)
  show codeAny _ _ (.expr t.body (NdefX.envF (nfL t cl c) a s.heap.objs.size)) _ _
  have kp : ∀ b o, s.heap.get? b = some o → h₁.get? b = some o := fun b o e => hsb.extBut b o (Nat.ne_of_lt (Heap.lt_size e)) (Heap.get?_push_of_some _ e)
  obtain ⟨r, hr, hq⟩ := hb A outer s H vs ws Q E a c cl (RoomX.of room _) gu C.len pre
  have I := NdefX.inv_startN (F := nfL t cl c) (f := a) (E := E) (CX := L2.CX pg w) (tk := s.toks + (t.ps.zip us).length) Sc room.hd e0 hl rv C hns kp
  refine PySem.W.kla_codeExpr (wpAny_mono (hr.run [] _ (NdefX.startF N vs ws) H Q I hq) (fun v s' z => ?_) fun e s' z => z)
  obtain ⟨v', H', J, ru, q⟩ := z
  exact ⟨v', H', J.os, J.bare, J.base, J.hok, ru, q⟩
end Mn
/-! Mr6: what a name holds, called. -/
namespace Mn
open L2 PyProof.Rows PySem.Spec PySem
section
variable {X : Cx} {k : Ka} {W : WX} {cal : Nat → List D → Sto → R D} {s : Ev} {g : Gs} {H H1 : Hp} {S : Sto} {σ : Ls} {L : Loc}
theorem RDs.split : ∀ {ds es : List D} {vs ws : List V}, RDs k g H (vs ++ ws) (ds ++ es) → vs.length = ds.length → RDs k g H vs ds ∧ RDs k g H ws es
  | [], es, vs, ws, h, l => by
    obtain rfl : vs = [] := List.length_eq_zero_iff.mp l
    exact ⟨.nil, h⟩
  | d :: ds, es, v :: vs, ws, h, l => by
    cases h with
    | cons a b =>
      obtain ⟨h1, h2⟩ := RDs.split b (Nat.succ.inj l)
      exact ⟨.cons a h1, h2⟩
  | d :: ds, es, [], ws, h, l => by cases l
theorem RC.toDs {ws : List (Option V)} {cs : List (Sum P Nat)} (h : RC k.toKg g H ws cs) : ∃ vs : List V, ws = vs.map some ∧ RDs k g H vs (cs.map capV) := by
  generalize hk : k.toKg = kk at h
  induction h with
  | nil => exact ⟨[], rfl, .nil⟩
  | @cons v vs c cs a _ ih =>
    subst hk
    obtain ⟨us, h1, h2⟩ := ih
    refine ⟨v :: us, by rw [h1]; rfl, .cons ?_ h2⟩
    cases c with
    | inl x => exact a
    | inr n => exact a
theorem RC.ofDs : ∀ {cs : List (Sum P Nat)} {vs : List V}, RDs k g H vs (cs.map capV) → RC k.toKg g H (vs.map some) cs
  | [], _, h => by cases h; exact .nil
  | c :: cs, _, h => by
    cases h with
    | cons a b =>
      refine .cons ?_ (RC.ofDs b)
      cases c with
      | inl x => exact a
      | inr n => exact a
variable {j : Nat} {pins : List (Addr × Obj)} {st : Shared} {Q : VK} {us : List Value} {vs : List V}
theorem run_l {kk : Kg} {t : LamT} {run : List D → Sto → R D} {ws : List (Option V)} {a c : Addr} {cl : List (Str × Addr)} (Lo : LOk X.prog X.w X.K X.mg X.base kk j t run) (hr : Room j X.A) (hg : X.A.guards = some []) (tk : Takes X W) (I : Inv X pins σ H st) (ha : H a = some (FnL a t cl c)) (hc : H c = some (LamX.CodeO c t.qual))
    (C : NdefX.CellsAt cl t.fr ws st.heap H) (r : Vals vs us) (h : spL kk j run st.heap vs ws H Q (WE W σ)) : wpAny (model X.prog X.w) X.A (call (.ref a) us) (EP X pins σ Q) X.xe st := by
  refine wpAny_call (codeAny_mono (Lo.go X.A X.stack st H us vs ws Q (WE W σ) a c cl hr hg I.env0 ha hc C r h) ?_)
  intro z s' q
  match z, q with
  | .error e, q => exact passAt tk σ pins H st e s' I q
  | .ok (.ret u), q => exact I.after q
  | .ok .next, q => exact q.elim
  | .ok .brk, q => exact q.elim
  | .ok .cont, q => exact q.elim
theorem callD_bad {f : Nat} {ds : List D} (h : ∀ S, cal f ds S = .bad) : callD cal f ds S = .bad := by
  have e : callS cal f ds S = .bad := by
    unfold callS
    rw [h]
  unfold callD
  split
  · rw [h]
  · exact e
/-- defs as values -/
def FaOk (X : Cx) (kk : Kg) (j : Nat) (cal : Nat → List D → Sto → R D) : Prop := ∀ f a, kk.fa f = some a → ∃ fd ps, GOk X.prog X.w X.K X.mg X.base j a fd ps (spD kk j ps.length (cal f)) ∧ Binds X.K fd ps [] ∧
  (∃ oc od fd' sl, X.K.lookup a = some ⟨oc, od, .func fd', sl⟩) ∧ ∀ ds S, ds.length ≠ ps.length → cal f ds S = .bad
def LtOk (X : Cx) (kk : Kg) (j : Nat) (cal : Nat → List D → Sto → R D) : Prop := ∀ f t, kk.lt f = some t → LOk X.prog X.w X.K X.mg X.base kk j t (cal f)
/-- it is a function -/
theorem cal_fn (fo : FaOk X k.toKg j cal) {d : D} (hd : calB d = true) {v : V} (r : RD k g H v d) : ∃ a, v = .ref a ∧ ∀ {g2 : Gs} {H2 : Hp} {s2 : Shared}, Inv X pins σ H2 s2 → RD k g2 H2 (.ref a) d → PySem.W.FnAt a s2.heap := by
  have la : ∀ {a : Addr} {f : Nat} {t : LamT} {cl : List (Str × Addr)} {g2 : Gs} {H2 : Hp} {s2 : Shared}, Inv X pins σ H2 s2 → LamAt k.toKg g2 H2 a f t cl → PySem.W.FnAt a s2.heap := by
    intro a f t cl g2 H2 s2 I2 h
    obtain ⟨_, c, h1, _⟩ := h
    obtain ⟨pm, ctv, ho⟩ := fnL_at I2.hok h1
    exact ⟨_, _, _, _, ho⟩
  cases d with
  | p x =>
    cases x <;> first | (cases hd; done) | skip
    · rename_i f
      cases (show RP k.toKg g H v (.fn f) from r) with
      | fn e =>
        refine ⟨_, rfl, fun {g2 H2 s2} I2 _ => ?_⟩
        obtain ⟨_, _, _, _, ⟨oc, od, fd', sl, e2⟩, _⟩ := fo f _ e
        exact ⟨oc, od, fd', sl, I2.kIn _ _ e2⟩
    · rename_i f
      cases (show RP k.toKg g H v (.lamc f) from r) with
      | lamc e e2 =>
        refine ⟨_, rfl, fun {g2 H2 s2} I2 r2 => ?_⟩
        cases (show RP k.toKg g2 H2 _ (.lamc f) from r2) with
        | lamc e _ => exact la I2 e
  | lam f sl n =>
    obtain ⟨a, t, cl, N, sc, rfl, h2, h3, h4⟩ := r
    refine ⟨a, rfl, fun {g2 H2 s2} I2 r2 => ?_⟩
    obtain ⟨a', t', cl', N', sc', e, h2', h3', h4'⟩ := r2
    cases e
    exact la I2 h3'
  | clo f cs =>
    obtain ⟨a, t, cl, ws, rfl, h3, h4⟩ := r
    refine ⟨a, rfl, fun {g2 H2 s2} I2 r2 => ?_⟩
    obtain ⟨a', t', cl', ws', e, h3', h4'⟩ := r2
    cases e
    exact la I2 h3'
  | ref n => cases hd
  | dead => cases hd
  | me => cases hd
  | lams _ _ => cases hd
theorem cells0 {h : Heap} {H : Hp} : NdefX.CellsAt [] [] [] h H :=
  { len := rfl
    all := fun y c e => by cases e
    inj := fun x y c e => by cases e
    has := fun i y e => by cases i <;> cases e }
/-- the call itself -/
theorem cal_run (Kf : KF X k) (lo : ∀ m, m < k.fr → k.fc m = none) (hj : j ≤ k.fr) (fo : FaOk X k.toKg j cal) (lt : LtOk X k.toKg j cal) (hr : Room j X.A) (hg : X.A.guards = some []) (tk : Takes X W) {a : Addr} {d : D} {ds : List D} (I : Inv X pins σ H st) (rv : Vals vs us) (rs : RS k g H S) (rl : RL k g H σ L) (r : RD k g H (.ref a) d) (rd : RDs k g H vs ds)
    (b : Bk k W σ g H (callL cal k.fr L d ds S) fun d _ g' H' => ∀ v, RD k g' H' v d → Q v H') : wpAny (model X.prog X.w) X.A (call (.ref a) us) (EP X pins σ Q) X.xe st := by
  have rsA : RS (atX k st.heap H) g H S := RS.ctx (k := k) (k' := atX k st.heap H) rfl (fun _ _ z => z) rs
  have toA : ∀ {f : Nat} {es : List D}, Bk k W σ g H (callD cal f es S) (fun d _ g' H' => ∀ v, RD k g' H' v d → Q v H') → Bk (atX k st.heap H) W σ g H (callD cal f es S) (fun d _ g' H' => ∀ v, RD (atX k st.heap H) g' H' v d → Q v H') := by
    intro f es b
    exact Bk.ctx (k := k) (k' := atX k st.heap H) rfl (fun _ _ z => z) (fun d S' z => callD_end z) b
  unfold callL at b
  split at b
  · rename_i f ds' e1 e2
    have r' := res_ok Kf I rl e1 r
    have rd' := ress_ok Kf I rl e2 rd
    cases (show RP k.toKg g H (.ref a) (.fn f) from r') with
    | fn e =>
      obtain ⟨fd, ps, G1, G2, _, G3⟩ := fo f a e
      by_cases hl : ds'.length = ps.length
      · obtain ⟨g0, S0, q1, q2, q3⟩ := call_go rsA rd' (toA b)
        refine run_g (vs := vs) (dvs := []) G1 hr hg G2 .nil (passAt tk σ) I rv ?_
        rw [List.append_nil]
        exact ⟨by rw [rd'.length, hl], atX k st.heap H, g0, ds', S0, rfl, hj, lo, rfl, rfl, rfl, rfl, q1, q2, q3⟩
      · rw [callD_bad fun S => G3 _ S hl] at b
        exact b.elim
  · rename_i f ds' e1 e2
    have r' := res_ok Kf I rl e1 r
    have rd' := ress_ok Kf I rl e2 rd
    cases (show RP k.toKg g H (.ref a) (.lamc f) from r') with
    | @lamc _ _ t e e0 =>
      obtain ⟨h0, c, h1, _, h2, _⟩ := e
      obtain ⟨g0, S0, q1, q2, q3⟩ := call_go rsA rd' (toA b)
      refine run_l (ws := []) (lt f t h0) hr hg tk I h1 h2 ?_ rv ⟨atX k st.heap H, g0, ds', [], S0, rfl, hj, lo, rfl, rfl, rfl, rfl, q1, q2, .nil, ?_⟩
      · rw [e0]
        exact cells0
      · rw [List.map_nil, List.append_nil]
        exact q3
  · rename_i f cs ds' e1 e2
    have r' := res_ok Kf I rl e1 r
    have rd' := ress_ok Kf I rl e2 rd
    obtain ⟨a', t, cl, ws, ea, ⟨h0, c, h1, _, h2, _⟩, h5, h6⟩ := r'
    cases ea
    obtain ⟨vs', rfl, rc⟩ := RC.toDs (k := atX k st.heap H) h6
    obtain ⟨g0, S0, q1, q2, q3⟩ := call_go rsA (rd'.append rc) (toA b)
    obtain ⟨z1, z2⟩ := RDs.split q2 rd'.length
    exact run_l (lt f t h0) hr hg tk I h1 h2 h5.1 rv ⟨atX k st.heap H, g0, ds', cs, S0, rfl, hj, lo, rfl, rfl, rfl, rfl, q1, z1, RC.ofDs (k := atX k st.heap H) z2, q3⟩
  · exact b.elim
theorem se_calL {i : Nat} {x : Str} {es : List Expr} {es' : List E} {p pos : Pos} (Kf : KF X k) (lo : ∀ m, m < k.fr → k.fc m = none) (hj : j ≤ k.fr) (fo : FaOk X k.toKg j cal) (lt : LtOk X k.toKg j cal) (hr : Room j X.A) (hg : X.A.guards = some []) (tk : Takes X W) (hN : X.N[i]? = some x) (hv : Vis X.env.scope x)
    (hd : (x == ("__debug__" : Str)) = false) (hcd : (x == ("__classdict__" : Str)) = false) (hst : es.all noStar = true) (ha : PA X es (rdA k W (evs s es'))) (hnil : es = [] → es' = []) : PE X (.Call (.Name x p) es [] pos) (rdE k W (evE cal k.fr s (.calL i es'))) := by
  constructor
  intro pins st σ H Q I h
  obtain ⟨g, L, S, rl, rs, b⟩ := h
  have b : Bk k W σ g H (match L[i]? with
    | some (some d) => if calB d = true then (evs s es' L S).bind fun ds S1 => callL cal k.fr L d ds S1 else .bad
    | _ => .bad) fun d _ g' H' => ∀ v, RD k g' H' v d → Q v H' := b
  split at b
  · rename_i d e
    split at b
    · rename_i hb
      obtain ⟨v, e1, r⟩ := rl.2 i d e
      obtain ⟨a, rfl, fn⟩ := cal_fn (X := X) (pins := pins) (σ := σ) fo hb r
      refine wpAny_Call_Name_kw (thn ((pe_var (pos := p) hN hv hd hcd).run pins st σ H (fun v' H1 => v' = .ref a ∧ H1 = H) I ⟨_, e1, rfl, rfl⟩) ?_)
      rintro u s1 ⟨v', H1, I1, r1, rfl, rfl⟩
      obtain rfl : u = Value.ref a := r1
      cases es with
      | nil =>
        obtain rfl := hnil rfl
        refine PySem.W.callWith_F0 (first := []) (fn I1 r) ?_
        exact cal_run (us := []) Kf lo hj fo lt hr hg tk I1 .nil rs rl r .nil ((show Bk k W σ g H1 ((R.ok [] S : R (List D)).bind fun ds S1 => callL cal k.fr L d ds S1) _ from b).bind.here rs)
      | cons e es =>
        rw [List.all_cons, Bool.and_eq_true] at hst
        refine PySem.W.callWith_F (first := []) (fn I1 r) ?_ (star_of hst.1 es X.env) (noStars hst.2 X.env pos)
        refine thn (ha.run pos pins s1 σ H1 (fun vs H2 => ∃ g2 S2 ds, RS k g2 H2 S2 ∧ RL k g2 H2 σ L ∧ RD k g2 H2 (.ref a) d ∧ RDs k g2 H2 vs ds ∧ Bk k W σ g2 H2 (callL cal k.fr L d ds S2) fun d _ g' H' => ∀ v, RD k g' H' v d → Q v H') I1 ?_) ?_
        · exact ⟨g, L, S, rl, rs, b.bind.imp fun ds S2 g2 H2 x2 rs2 b2 vs rv => ⟨g2, S2, ds, rs2, rl.mono x2, r.mono x2, rv, b2⟩⟩
        · rintro us s2 ⟨vs, H2, I2, rv, g2, S2, ds, rs2, rl2, r2, rd2, b2⟩
          exact ⟨fn I2 r2, cal_run (us := us) Kf lo hj fo lt hr hg tk I2 rv rs2 rl2 r2 rd2 b2⟩
    · exact b.elim
  · exact b.elim
end
end Mn
/-! Mr7: two texts of an expression are the same. -/
namespace Mn
open L2 PyProof.Rows PySem.Spec PySem
def eqL {α : Type} (f : α → α → Bool) : List α → List α → Bool
  | [], [] => true
  | a :: as, b :: bs => f a b && eqL f as bs
  | _, _ => false
theorem eqL_ok {α : Type} {f : α → α → Bool} (h : ∀ a b, f a b = true → a = b) : ∀ {as bs : List α}, eqL f as bs = true → as = bs
  | [], [], _ => rfl
  | a :: as, b :: bs, e => by
    unfold eqL at e
    rw [Bool.and_eq_true] at e
    rw [h a b e.1, eqL_ok h e.2]
  | [], _ :: _, e => by cases e
  | _ :: _, [], e => by cases e
def eqKw (f : Expr → Expr → Bool) : Keyword → Keyword → Bool
  | ⟨a, v, p⟩, ⟨b, w, q⟩ => decide (a = b) && f v w && decide (p = q)
def eqOp {α : Type} (f : α → α → Bool) : Option α → Option α → Bool
  | none, none => true
  | some a, some b => f a b
  | _, _ => false
theorem eqOp_ok {α : Type} {f : α → α → Bool} (h : ∀ a b, f a b = true → a = b) : ∀ {a b : Option α}, eqOp f a b = true → a = b
  | none, none, _ => rfl
  | some a, some b, e => by rw [h a b e]
  | none, some _, e => by cases e
  | some _, none, e => by cases e
def eqE : Nat → Expr → Expr → Bool
  | 0, _, _ => false
  | m + 1, .Dict ks vs p, .Dict ls ws q => eqL (eqOp (eqE m)) ks ls && eqL (eqE m) vs ws && decide (p = q)
  | m + 1, .Slice a b c p, .Slice d e f q => eqOp (eqE m) a d && eqOp (eqE m) b e && eqOp (eqE m) c f && decide (p = q)
  | m + 1, .Name x p, .Name y q => decide (x = y) && decide (p = q)
  | m + 1, .Constant a i p, .Constant b j q => decide (a = b) && decide (i = j) && decide (p = q)
  | m + 1, .Call f as ks p, .Call g bs ls q => eqE m f g && eqL (eqE m) as bs && eqL (eqKw (eqE m)) ks ls && decide (p = q)
  | m + 1, .BinOp a o b p, .BinOp c u d q => eqE m a c && decide (o = u) && eqE m b d && decide (p = q)
  | m + 1, .UnaryOp o a p, .UnaryOp u b q => decide (o = u) && eqE m a b && decide (p = q)
  | m + 1, .BoolOp o as p, .BoolOp u bs q => decide (o = u) && eqL (eqE m) as bs && decide (p = q)
  | m + 1, .Compare a os as p, .Compare b us bs q => eqE m a b && decide (os = us) && eqL (eqE m) as bs && decide (p = q)
  | m + 1, .IfExp a b c p, .IfExp d e f q => eqE m a d && eqE m b e && eqE m c f && decide (p = q)
  | m + 1, .Tuple as i p, .Tuple bs j q => eqL (eqE m) as bs && decide (i = j) && decide (p = q)
  | m + 1, .List as p, .List bs q => eqL (eqE m) as bs && decide (p = q)
  | m + 1, .Attribute a x p, .Attribute b y q => eqE m a b && decide (x = y) && decide (p = q)
  | m + 1, .Subscript a b p, .Subscript c d q => eqE m a c && eqE m b d && decide (p = q)
  | m + 1, .Starred a p, .Starred b q => eqE m a b && decide (p = q)
  | _, _, _ => false
theorem eqE_ok : ∀ (m : Nat) (a b : Expr), eqE m a b = true → a = b := by
  intro m
  induction m with
  | zero => intro a b h; simp [eqE] at h
  | succ m ih =>
    intro a b h
    have l : ∀ {as bs}, eqL (eqE m) as bs = true → as = bs := fun h => eqL_ok ih h
    have kw : ∀ {as bs}, eqL (eqKw (eqE m)) as bs = true → as = bs := fun h => eqL_ok (fun ⟨a, v, p⟩ ⟨b, w, q⟩ e => by
      simp only [eqKw, Bool.and_eq_true, decide_eq_true_eq] at e
      rw [e.1.1, ih _ _ e.1.2, e.2]) h
    cases a <;> cases b <;> first | (simp [eqE] at h; done) | skip
    all_goals simp only [eqE, Bool.and_eq_true, decide_eq_true_eq] at h
    · obtain ⟨⟨h1, h2⟩, h3⟩ := h
      rw [h1, l h2, h3]
    · obtain ⟨⟨⟨h1, h2⟩, h3⟩, h4⟩ := h
      rw [ih _ _ h1, h2, ih _ _ h3, h4]
    · obtain ⟨⟨h1, h2⟩, h3⟩ := h
      rw [h1, ih _ _ h2, h3]
    · obtain ⟨⟨⟨h1, h2⟩, h3⟩, h4⟩ := h
      rw [ih _ _ h1, ih _ _ h2, ih _ _ h3, h4]
    · obtain ⟨⟨h1, h2⟩, h3⟩ := h
      rw [eqL_ok (fun _ _ z => eqOp_ok ih z) h1, l h2, h3]
    · obtain ⟨⟨⟨h1, h2⟩, h3⟩, h4⟩ := h
      rw [ih _ _ h1, h2, l h3, h4]
    · obtain ⟨⟨⟨h1, h2⟩, h3⟩, h4⟩ := h
      rw [ih _ _ h1, l h2, kw h3, h4]
    · obtain ⟨⟨h1, h2⟩, h3⟩ := h
      rw [h1, h2, h3]
    · obtain ⟨⟨h1, h2⟩, h3⟩ := h
      rw [ih _ _ h1, h2, h3]
    · obtain ⟨⟨h1, h2⟩, h3⟩ := h
      rw [ih _ _ h1, ih _ _ h2, h3]
    · obtain ⟨h1, h2⟩ := h
      rw [ih _ _ h1, h2]
    · obtain ⟨h1, h2⟩ := h
      rw [h1, h2]
    · obtain ⟨h1, h2⟩ := h
      rw [l h1, h2]
    · obtain ⟨⟨h1, h2⟩, h3⟩ := h
      rw [l h1, h2, h3]
    · obtain ⟨⟨⟨h1, h2⟩, h3⟩, h4⟩ := h
      rw [eqOp_ok ih h1, eqOp_ok ih h2, eqOp_ok ih h3, h4]
/-- plain parameters -/
def eqArg : Arg → Arg → Bool
  | ⟨a, none, p⟩, ⟨b, none, q⟩ => decide (a = b) && decide (p = q)
  | _, _ => false
def eqArgs : Arguments → Arguments → Bool
  | ⟨[], as, none, [], [], none, []⟩, ⟨[], bs, none, [], [], none, []⟩ => eqL eqArg as bs
  | _, _ => false
theorem eqArg_ok : ∀ a b : Arg, eqArg a b = true → a = b
  | ⟨a, none, p⟩, ⟨b, none, q⟩, h => by
    simp only [eqArg, Bool.and_eq_true, decide_eq_true_eq] at h
    rw [h.1, h.2]
  | ⟨_, none, _⟩, ⟨_, some _, _⟩, h => by cases h
  | ⟨_, some _, _⟩, ⟨_, none, _⟩, h => by cases h
  | ⟨_, some _, _⟩, ⟨_, some _, _⟩, h => by cases h
theorem eqArgs_ok {a b : Arguments} (h : eqArgs a b = true) : a = b ∧ ∀ env, defaultsOf a env = ([], []) := by
  unfold eqArgs at h
  split at h
  · exact ⟨by rw [eqL_ok eqArg_ok h], fun env => rfl⟩
  · cases h
end Mn
/-! Mr10: alone by some names; lists of lambdas; instances: attributes, methods, isinstance. -/
namespace Mn
open L2 PyProof.Rows PySem.Spec PySem
section
variable {k : Ka} {g g1 : Gs} {H H1 : Hp} {S : Sto} {σ : Ls} {L : Loc}
/-! ### alone -/
theorem alo_gp : Gp g H ⟨g.M, []⟩ H := ⟨fun _ _ h _ _ => h, fun a o _ _ n z => n (z.elim id fun q => nomatch q)⟩
theorem alo_back (rs : RS k g H S) {g' : Gs} {H' : Hp} {S' : Sto} (x : Ext ⟨g.M, []⟩ H g' H') (r' : RS k g' H' S') : Ext g H g H' ∧ RS k g H' S ∧ Gp g' H' g H' := by
  have e1 : Ext g H g H' := ⟨rfl, ⟨[], by simp, fun _ z => nomatch z⟩, fun a o h t _ => x.keep a o h t (fun z => nomatch z), x.live⟩
  refine ⟨e1, rs.grown e1 r'.tabs fun a ha => ?_, ⟨fun _ _ h _ _ => h, fun a o _ _ n z => n (.inl (by rw [x.F]; exact z))⟩⟩
  obtain ⟨_, _, _, _, _, e, _⟩ := rs.live ha
  rw [e]
  exact x.keep a _ e trivial (fun z => nomatch z)
theorem RC.alo2 {k : Kg} (y : Gp g H g1 H1) {ws : List (Option V)} {cs : List (Sum P Nat)} (h : RC k g H ws cs) : (cs.all fun c => match c with
    | .inl _ => true
    | .inr _ => false) = true → RC k g1 H1 ws cs := by
  induction h with
  | nil => exact fun _ => .nil
  | @cons v vs c cs a _ ih =>
    intro e
    rw [List.all_cons, Bool.and_eq_true] at e
    refine .cons ?_ (ih e.2)
    cases c with
    | inl x => exact RP.gp y a
    | inr n => cases e.1
theorem RD.alo2 (y : Gp g H g1 H1) {d : D} {v : V} (e : alo2 d = true) (h : RD k g H v d) : RD k g1 H1 v d := by
  cases d with
  | p x => exact RP.gp y h
  | ref n => cases e
  | lam f sl n => exact LamR.gp y h
  | clo f cs =>
    obtain ⟨a, t, cl, ws, h2, h4, h5, h6⟩ := h
    exact ⟨a, t, cl, ws, h2, h4.gp y, h5, h6.alo2 y e⟩
  | dead => trivial
  | me => exact h
  | lams ls n =>
    obtain ⟨a, vs, h1, h2, h3, h4⟩ := h
    exact ⟨a, vs, h1, y.kp _ _ h2 trivial h3, y.notM _ _ h2 trivial h3, h4.gp y⟩
theorem maskL_at {ms : List Nat} : ∀ {L : Loc} {i j : Nat} {d : D}, (maskL ms i L)[j]? = some (some d) → L[j]? = some (some d) ∧ alo2 d = true
  | [], _, _, _, e => by simp [maskL] at e
  | o :: L, i, 0, d, e => by
    have e : maskD (ms.any (Nat.beq i)) o = some d := by simpa [maskL] using e
    unfold maskD at e
    split at e
    · split at e
      · rename_i h
        cases e
        exact ⟨rfl, (Bool.and_eq_true_iff.mp h).2⟩
      · cases e
    · cases e
  | o :: L, i, j + 1, d, e => maskL_at (L := L) (i := i + 1) (j := j) (by simpa [maskL] using e)
theorem maskL_len {ms : List Nat} : ∀ {L : Loc} {i : Nat}, (maskL ms i L).length = L.length
  | [], _ => rfl
  | o :: L, i => congrArg (· + 1) (maskL_len (L := L) (i := i + 1))
theorem RL.mask (rl : RL k g H σ L) (ms : List Nat) : RL k ⟨g.M, []⟩ H σ (maskL ms 0 L) :=
  ⟨by rw [maskL_len]; exact rl.1, fun i d e => by
    obtain ⟨e1, e2⟩ := maskL_at e
    obtain ⟨v, h1, h2⟩ := rl.2 i d e1
    exact ⟨v, h1, h2.alo2 alo_gp e2⟩⟩
end
section
variable {X : Cx} {k : Ka} {W : WX} {cal : Nat → List D → Sto → R D} {fr : Nat} {s : Ev}
theorem iso_rd {f : Loc → Sto → R D} {ms : List Nat} {σ : Ls} {H : Hp} {Q : VK} (h : rdE k W (fun L S => isoR (f (maskL ms 0 L) []) S) σ H Q) : rdE k W f σ H Q := by
  obtain ⟨g, L, S, rl, rs, b⟩ := h
  refine ⟨⟨g.M, []⟩, maskL ms 0 L, [], rl.mask ms, Gs.alone_rs rs, ?_⟩
  dsimp only at b
  generalize f (maskL ms 0 L) [] = r at b ⊢
  cases r with
  | bad => exact b.elim
  | ex x S' =>
    intro g' H' cls dd y rs' rx
    obtain ⟨h1, h2, h3⟩ := alo_back rs y rs'
    exact b g H' cls dd h1 h2 (rx.gp h3)
  | ok d S' =>
    cases d with
    | p z =>
      intro g' H' y rs' v rv
      obtain ⟨h1, h2, h3⟩ := alo_back rs y rs'
      exact b g H' h1 h2 v (RP.gp h3 rv)
    | _ => exact b.elim
theorem iso_rdT {f : Loc → Sto → R Bool} {ms : List Nat} {σ : Ls} {H : Hp} {Q : Bool → Hp → Prop} (h : rdT k W (fun L S => isoT (f (maskL ms 0 L) []) S) σ H Q) : rdT k W f σ H Q := by
  obtain ⟨g, L, S, rl, rs, b⟩ := h
  refine ⟨⟨g.M, []⟩, maskL ms 0 L, [], rl.mask ms, Gs.alone_rs rs, ?_⟩
  dsimp only at b
  generalize f (maskL ms 0 L) [] = r at b ⊢
  cases r with
  | bad => exact b.elim
  | ex x S' =>
    intro g' H' cls dd y rs' rx
    obtain ⟨h1, h2, h3⟩ := alo_back rs y rs'
    exact b g H' cls dd h1 h2 (rx.gp h3)
  | ok c S' =>
    intro g' H' y rs'
    obtain ⟨h1, h2, h3⟩ := alo_back rs y rs'
    exact b g H' h1 h2
theorem se_iso {e : Expr} {e' : E} {ms : List Nat} (h : PE X e (rdE k W (s.e e'))) : PE X e (rdE k W (evE cal fr s (.iso ms e'))) := PE.imp h fun _ _ _ q => iso_rd q
theorem st_iso {e : Expr} {e' : E} {ms : List Nat} (h : PT X e (rdT k W (s.t e'))) : PT X e (rdT k W (evT cal fr s (.iso ms e'))) := PT.imp h fun _ _ _ q => iso_rdT q
theorem sw_iso {e : Expr} {e' : E} {ms : List Nat} (h : PW X e (rdT k W (s.t e'))) : PW X e (rdT k W (evT cal fr s (.iso ms e'))) := PW.imp h fun _ _ _ q => iso_rdT q
/-! ### lists of lambdas -/
theorem lamsD_ok {g : Gs} {H : Hp} {n : Nat} : ∀ {ds : List D} {ls : List (Nat × List Nat)} {vs : List V}, lamsD n ds = some ls → RDs k g H vs ds → RLs k g H n vs ls
  | [], ls, _, e, h => by
    cases h
    cases e
    exact .nil
  | .lam f [] m :: ds, _, _, e, _ => by cases e
  | .lam f (i :: sl) m :: ds, ls, _, e, h => by
    cases h with
    | cons a b =>
      unfold lamsD at e
      split at e
      · rename_i hm
        obtain rfl := Nat.eq_of_beq_eq_true hm
        obtain ⟨ls', h1, rfl⟩ := Option.map_eq_some_iff.mp e
        exact .cons a (lamsD_ok h1 b)
      · cases e
  | .p (.lamc f) :: ds, ls, _, e, h => by
    cases h with
    | cons a b =>
      unfold lamsD at e
      obtain ⟨ls', h1, rfl⟩ := Option.map_eq_some_iff.mp e
      exact .cons a (lamsD_ok h1 b)
  | .p .non :: _, _, _, e, _ => by cases e
  | .p (.bl _) :: _, _, _, e, _ => by cases e
  | .p (.int _) :: _, _, _, e, _ => by cases e
  | .p (.str _) :: _, _, _, e, _ => by cases e
  | .p (.tup _) :: _, _, _, e, _ => by cases e
  | .p (.lst _) :: _, _, _, e, _ => by cases e
  | .p (.dct _ _) :: _, _, _, e, _ => by cases e
  | .p (.fn _) :: _, _, _, e, _ => by cases e
  | .p (.scr _) :: _, _, _, e, _ => by cases e
  | .p (.ins _ _ _) :: _, _, _, e, _ => by cases e
  | .p .unk :: _, _, _, e, _ => by cases e
  | .ref _ :: _, _, _, e, _ => by cases e
  | .clo _ _ :: _, _, _, e, _ => by cases e
  | .dead :: _, _, _, e, _ => by cases e
  | .me :: _, _, _, e, _ => by cases e
  | .lams _ _ :: _, _, _, e, _ => by cases e
theorem se_lms {es : List Expr} {es' : List E} {pos : Pos} (he : PA X es (rdA k W (evs s es'))) : PE X (.List es pos) (rdE k W (evE cal fr s (.lms es'))) := by
  refine PE.imp (pe_lst he) fun σ H Q h => ?_
  refine rdA.imp (rd_args (F := lmsR fr) h) fun vs H1 q => ?_
  obtain ⟨g, ds, S, rs, rv, bk⟩ := q
  unfold lmsR at bk
  split at bk
  · rename_i hl
    split at bk
    · rename_i ls e
      refine ⟨by rw [rv.length, ← line_eq]; exact Nat.le_of_ble_eq_true hl, fun p hp => ?_⟩
      have x := Ext.laid rs hp (.lst vs)
      exact (Bk.okE bk) g _ x (rs.laid hp _) (.ref p) ⟨p, vs, rfl, upd_same, rs.fresh hp, (lamsD_ok e rv).gp x.gr.gp⟩
    · exact bk.elim
  · exact bk.elim
/-! ### own classes -/
def kindsT : List String := ["NoneType", "bool", "int", "str", "tuple", "list", "dict"]
/-- what is asked of an instance's type -/
structure TyC (K : PySem.W.Frag) (C : Addr) : Prop where
  cl : Cls K C
  ha : PySem.W.findIn K (.ref C) "__class__" = some (some (.builtin "object.__class__"))
  hn : PySem.W.specialIn K (.builtin "object.__class__") "__get__" = some (some (.builtin "getset_descriptor.__get__"))
  htk : PySem.W.takesIn K (.builtin "object.__class__") = some true
  hm : PySem.W.mroIn K C (.type "object") = some true
/-- an __init__'s promise: self is new, what it made is told as data -/
def spI (kk : Kg) (j np : Nat) (C : Addr) (run : List D → Sto → R D) : Heap → Sp := fun h us H Q E => us.length = np + 1 ∧ ∃ (x dx : Addr) (vs : List V) (H1 : Hp) (k : Ka) (g : Gs) (ds : List D) (S : Sto), us = .ref x :: vs ∧ H1 x = none ∧ H1 dx = none ∧ dx ≠ x ∧ H = upd (upd H1 dx (.own x)) x (.ins C dx []) ∧ k.toKg = kk ∧ j ≤ k.fr ∧ (∀ m, m < k.fr → k.fc m = none) ∧ k.h0 = h ∧ k.H0 = H ∧ k.ex = [] ∧ k.me = none ∧
  RS k g H1 S ∧ RDs k g H1 vs ds ∧ Bk k (fun c d _ H => E c d H) [] g H1 (run ds S) fun d _ g' H' => RD k g' H' (.ref x) d → Q .non H'
/-- what is known of the classes, by the tables -/
structure ClF (X : Cx) (kk : Kg) (j : Nat) (cal : Nat → List D → Sto → R D) (mt : Nat → Str → Option Nat) (pr : Nat → Str → Option (Sum Str Nat)) (mk : Nat → Option Nat) : Prop where
  ty : ∀ c i C, mk c = some i → kk.cl c = some C → TyC X.K C
  isB : ∀ c i C T, mk c = some i → kk.cl c = some C → T ∈ kindsT → PySem.W.kitOne X.K (.type T) (.ref C) = some false
  isO : ∀ c i C c' i' C', mk c = some i → kk.cl c = some C → mk c' = some i' → kk.cl c' = some C' → PySem.W.kitOne X.K (.ref C') (.ref C) = some (Nat.beq c c')
  fld : ∀ c f g C, pr c f = some (.inl g) → kk.cl c = some C → Cls X.K C ∧ f = g ∧ NoAttr X.K C f
  prp : ∀ c f i C, pr c f = some (.inr i) → kk.cl c = some C → Cls X.K C ∧ ∃ p ga fd ps, PropOf X.K C f p ga ∧ GOk X.prog X.w X.K X.mg X.base j ga fd ps (spD kk j ps.length (cal i)) ∧ Binds X.K fd ps [] ∧ ∀ ds S, ds.length ≠ ps.length → cal i ds S = .bad
  mth : ∀ c m i C, mt c m = some i → kk.cl c = some C → Cls X.K C ∧ ∃ ga fd ps, Meth X.K C m ga ∧ GOk X.prog X.w X.K X.mg X.base j ga fd ps (spD kk j ps.length (cal i)) ∧ Binds X.K fd ps [] ∧ ∀ ds S, ds.length ≠ ps.length → cal i ds S = .bad
  mkr : ∀ c i C, mk c = some i → kk.cl c = some C → ∃ ga fd ps np, L2.Mk X.K C ga ∧ GOk X.prog X.w X.K X.mg X.base j ga fd ps (spI kk j np C (cal i)) ∧ ps.length = np + 1 ∧ Binds X.K fd ps [] ∧ ∀ ds S, ds.length ≠ np → cal i ds S = .bad
variable {j : Nat}
/-- the getter of a property is called -/
theorem prop_go {pins : List (Addr × Obj)} {σ : Ls} {H : Hp} {st : Shared} {a C dx p ga : Addr} {f : Str} {fs : List (Str × V)} {fd : FuncData} {ps : List Str} {sp : Heap → Sp} {Q : VK} {b : Bool} (I : Inv X pins σ H st) (ea : H a = some (.ins C dx fs)) (c : Cls X.K C) (hp : PropOf X.K C f p ga)
    (F : GOk X.prog X.w X.K X.mg X.base j ga fd ps sp) (hr : RoomX j X.A) (hg : X.A.guards = some []) (hb : Binds X.K fd ps []) (h : ∀ s1, Inv X pins σ H s1 → sp s1.heap [.ref a] H Q (WE WN σ)) :
    wpAny (model X.prog X.w) X.A (getAttr (.ref a) f b) (EP X pins σ Q) X.xe st := by
  obtain ⟨mA, O, _, _, _, _⟩ := ins_get I.hok ea
  obtain ⟨od, J, _⟩ := O.look
  obtain ⟨rest, hrec⟩ := hp.rec_
  have I1 := I.tok (st.toks + 1)
  have h1 := h _ I1
  have hl : ([Value.ref a] ++ []).length = ps.length := F.len _ _ _ _ _ h1
  refine PySem.W.get_bind I.kIn J (PySem.W.plainGet_of (c.get f)).1 (PySem.W.findObj_data (by
    obtain ⟨cd, hc, _⟩ := PySem.W.any_some c.hd
    rw [hc]; rfl) hp.at_ hp.get hp.tak) (PySem.W.plainGet_of (c.get f)).2 (wpAny_call (PySem.W.prop_get (s := { st with toks := st.toks + 1 }) I.kIn hrec ?_))
  refine codeAny_mono (F.go X.A.in1 X.stack { st with toks := st.toks + 1 } H ⟨[.ref a], []⟩ [.ref a] [.ref a] Q (WE WN σ) hr.in1 hg I1.env0.in1 (hb _ [.ref a] I1.kIn hl) (.cons rfl .nil) h1) fun r s' hq => ?_
  cases r with
  | error er => exact (passAt (X := X.nox) takes0 σ pins H { st with toks := st.toks + 1 } er s' (I1.wish _) hq).elim
  | ok fl =>
    cases fl with
    | ret u =>
      obtain ⟨v, H', I3, rv, q3⟩ := I1.after hq
      show wpAny _ _ (handedOut u) _ _ _
      rw [PySem.W.handedOut_of (handed_of rv)]
      exact wpAny_pure ⟨v, H', I3, rv, q3⟩
    | next => exact hq.elim
    | brk => exact hq.elim
    | cont => exact hq.elim
theorem RPs.look {k : Kg} {g : Gs} {H : Hp} {f : Str} : ∀ {ns : List Str} {vs : List V} {ps : List P} {z : P}, RPs k g H vs ps → (ns.zip ps).lookup f = some z → ∃ v, (ns.zip vs).lookup f = some v ∧ RP k g H v z
  | [], _, _, _, _, e => by simp at e
  | _ :: _, _, [], _, h, e => by simp at e
  | c :: ks, _, p :: ps, z, h, e => by
    cases h with
    | @cons v vs _ _ a b =>
      rw [List.zip_cons_cons, List.lookup_cons] at e ⊢
      cases hc : f == c with
      | true =>
        rw [hc] at e
        cases e
        exact ⟨v, rfl, a⟩
      | false =>
        rw [hc] at e
        exact RPs.look (ns := ks) b e
theorem zip_look {f : Str} {α : Type} : ∀ {ns : List Str} {vs : List α}, (ns.any fun n => decide (n = f)) = false → (ns.zip vs).lookup f = none
  | [], _, _ => by simp
  | _ :: _, [], _ => by simp
  | n :: ns, v :: vs, h => by
    rw [List.any_cons, Bool.or_eq_false_iff] at h
    have h1 : ¬ n = f := of_decide_eq_false h.1
    rw [List.zip_cons_cons, List.lookup_cons, show (f == n) = false from beq_eq_false_iff_ne.mpr (fun z => h1 z.symm)]
    exact zip_look h.2
theorem se_fld {e : Expr} {e' : E} {f : Str} {pos : Pos} (lo : ∀ m, m < k.fr → k.fc m = none) (hj : j ≤ k.fr) (F : ClF X k.toKg j cal s.mt s.pr s.mkt) (hr : RoomX j X.A) (hgu : X.A.guards = some []) (tk : Takes X W) (hb : attributeBase e f X.env (eval e X.env) = eval e X.env) (ha : PE X e (rdE k W (s.e e'))) :
    PE X (.Attribute e f pos) (rdE k W (evE cal fr s (.fld e' f))) := by
  refine ⟨fun pins st σ H Q I h => ?_⟩
  have h1 := rd_one (F := fun x S => fldR cal s.pr x f S) h
  refine attr_of hb (thn (ha.run pins st σ H _ I h1) fun u s1 ⟨v, H1, I1, rv, g, x, S, rs, rx, bk⟩ => ?_)
  unfold fldR at bk
  dsimp only at bk
  split at bk
  · rename_i c ns ps
    cases rx with
    | @ins a C dx _ _ vs _ t n e l r =>
      obtain rfl : u = Value.ref a := rv
      split at bk
      · rename_i g1 q1
        obtain ⟨z, q2, w⟩ := lift_want bk
        obtain ⟨h1, h2, h3⟩ := F.fld c f g1 C q1 e
        subst h2
        obtain ⟨v, h4, h5⟩ := RPs.look r q2
        exact getattr_ok I1 t h1 h3 h4 fun u' s2 I2 ru => ⟨v, H1, I2, ru, w.at rs h5⟩
      · rename_i i q1
        obtain ⟨h1, p, ga, fd, pps, h2, h3, h4, h5⟩ := F.prp c f i C q1 e
        by_cases hl : pps.length = 1
        · refine prop_go I1 t h1 h2 h3 hr hgu h4 fun s2 I2 => ?_
          have bn : Bk k WN σ g H1 (callD cal i [.p (.ins c ns ps)] S) fun d _ g' H' => ∀ v, RD k g' H' v d → Q v H' := by
            generalize callD cal i [.p (.ins c ns ps)] S = rr at bk
            cases rr with
            | ok d S' => exact bk
            | ex _ _ => exact bk.elim
            | bad => exact bk.elim
          have b' := Bk.ctx (k := k) (k' := atX k s2.heap H1) rfl (fun _ _ z => z) (fun d S' z => callD_end z) bn
          have rv : RDs (atX k s2.heap H1) g H1 [V.ref a] [.p (.ins c ns ps)] := .cons (RP.ins t n e l r) .nil
          obtain ⟨g0, S0, q1, q2, q3⟩ := call_go (RS.ctx (k := k) (k' := atX k s2.heap H1) rfl (fun _ _ z => z) rs) rv b'
          exact ⟨hl.symm, atX k s2.heap H1, g0, _, S0, rfl, hj, lo, rfl, rfl, rfl, rfl, q1, q2, q3⟩
        · exfalso
          have e1 : callD cal i [.p (.ins c ns ps)] S = .bad := by
            have b1 : ∀ S, cal i [.p (.ins c ns ps)] S = .bad := fun S => h5 _ S fun z => hl z.symm
            unfold callD callS
            rw [b1, b1]
            split <;> rfl
          rw [e1] at bk
          exact bk
      · exact bk.elim
  · exact bk.elim
end
end Mn
/-! Mr11: methods called, instances made. -/
namespace Mn
open L2 PyProof.Rows PySem.Spec PySem
theorem kwNil (pos : Pos) (env : Env) : backToKw pos (keywordEach [] env) = [] := rfl
theorem formOk {env : Env} {pos : Pos} : ∀ {args : List Expr}, args.all noStar = true → (backTo pos (starEach args env)).all (fun x => !x.1) = true
  | [], _ => rfl
  | e :: es, h => by
    rw [List.all_cons, Bool.and_eq_true] at h
    rw [star_of h.1]
    have := formOk (env := env) (pos := pos) h.2
    unfold backTo at this ⊢
    rw [List.map_cons, List.all_cons, this]
    rfl
/-- the tree of o.m(..) on one line -/
theorem ht_of {e : Expr} {m : Str} {apos pos : Pos} {args : List Expr} {env : Env} (hb : noCall e = true) (hs : args.all noStar = true) (hl : args.length < 30) (hln : (apos.endLine == pos.line) = true) :
    eval (.Call (.Attribute e m apos) args [] pos) env = (do
      let ov ← eval e env
      standAt apos.atName
      let (f, first) ← holding [ov] (getMethod ov m (do return (← importBound e env).getD true))
      callWith pos f first (backTo pos (starEach args env)) (backToKw pos (keywordEach [] env))) := by
  have hf : methodCallForm args.length (backTo pos (starEach args env)) (backToKw pos (keywordEach [] env)) = true := by
    unfold methodCallForm
    rw [formOk hs, kwNil]
    simp [hl]
  have e0 : eval (.Call (.Attribute e m apos) args [] pos) env = (do
    let ov ← attributeBase e m env (eval e env)
    standAt apos.atName
    methodCall e m apos pos env ov args.length (backTo pos (starEach args env)) (backToKw pos (keywordEach [] env))) := rfl
  have e1 : methodCallPos true e env apos pos = pure pos := by
    unfold methodCallPos
    rw [hln]
    rfl
  have e2 : ∀ ov, methodCall e m apos pos env ov args.length (backTo pos (starEach args env)) (backToKw pos (keywordEach [] env)) = (do
      let (f, first) ← holding [ov] (getMethod ov m (do return (← importBound e env).getD true))
      callWith pos f first (backTo pos (starEach args env)) (backToKw pos (keywordEach [] env))) := by
    intro ov
    unfold methodCall
    rw [hf, e1]
    rfl
  rw [e0, base_of hb]
  simp only [e2]
section
variable {X : Cx} {k : Ka} {W : WX} {cal : Nat → List D → Sto → R D} {s : Ev} {j : Nat}
theorem se_meth {e : Expr} {e' : E} {es : List Expr} {es' : List E} {m : Str} {apos pos : Pos} (Kf : KF X k) (lo : ∀ m, m < k.fr → k.fc m = none) (hj : j ≤ k.fr) (F : ClF X k.toKg j cal s.mt s.pr s.mkt) (hr : Room j X.A) (hgu : X.A.guards = some []) (tk : Takes X W)
    (hb : noCall e = true) (hst : es.all noStar = true) (hl : es.length < 30) (hln : (apos.endLine == pos.line) = true) (he : PE X e (rdE k W (s.e e'))) (ha : PA X es (rdA k W (evs s es'))) (hnil : es = [] → es' = []) :
    PE X (.Call (.Attribute e m apos) es [] pos) (rdE k W (evE cal k.fr s (.meth m e' es'))) := by
  refine ⟨fun pins st σ H Q I h => ?_⟩
  obtain ⟨g, L, S, rl, rs, b⟩ := h
  refine PySem.W.methodCall_KW (thn (he.run pins st σ H (fun v H1 => ∃ g1 x S1, RL k g1 H1 σ L ∧ RS k g1 H1 S1 ∧ RD k g1 H1 v x ∧ Bk k W σ g1 H1 (if methB s.mt m x then (evs s es' L S1).bind fun ds S2 => methR cal k.fr s.mt L m x ds S2 else .bad) fun d _ g' H' => ∀ v, RD k g' H' v d → Q v H') I ⟨g, L, S, rl, rs, b.bind.imp fun x S1 g1 H1 x1 rs1 b1 v rv => ⟨g1, x, S1, rl.mono x1, rs1, rv, b1⟩⟩) fun u s1 ⟨v, H1, I1, rv, g1, x, S1, rl1, rs1, rx, b1⟩ => ?_) (ht_of hb hst hl hln)
  split at b1
  · rename_i hm
    unfold methB at hm
    split at hm
    · rename_i c ns ps
      rw [Bool.and_eq_true, Bool.not_eq_true'] at hm
      obtain ⟨i, hi⟩ := Option.isSome_iff_exists.mp hm.1
      cases (show RP k.toKg g1 H1 v (.ins c ns ps) from rx) with
      | @ins a C dx _ _ vs _ t n e l r =>
        obtain rfl : u = Value.ref a := rv
        obtain ⟨h1, ga, fd, pps, h2, h3, h4, h5⟩ := F.mth c m i C hi e
        refine getmeth_ok I1 t h1 h2 (zip_look hm.2) ?_
        -- the call itself
        have go : ∀ {s2 : Shared} {H2 : Hp} {g2 : Gs} {S2 : Sto} {us : List Value} {ws : List V} {ds : List D}, Inv X pins σ H2 s2 → Vals ws us → RL k g2 H2 σ L → RS k g2 H2 S2 → RDs k g2 H2 (.ref a :: ws) (.p (.ins c ns ps) :: ds) → Bk k W σ g2 H2 (methR cal k.fr s.mt L m (.p (.ins c ns ps)) ds S2) (fun d _ g' H' => ∀ v, RD k g' H' v d → Q v H') →
            wpAny (model X.prog X.w) X.A (call (.ref ga) (.ref a :: us)) (EP X pins σ Q) X.xe s2 := by
          intro s2 H2 g2 S2 us ws ds I2 ru rl2 rs2 rd b2
          unfold methR at b2
          dsimp only at b2
          rw [hi] at b2
          dsimp only at b2
          unfold callR at b2
          split at b2
          · rename_i ds' e2
            have rv' := ress_ok Kf I2 rl2 e2 rd
            have b' := Bk.ctx (k := k) (k' := atX k s2.heap H2) rfl (fun _ _ z => z) (fun d S' z => callD_end z) b2
            by_cases hlen : ds'.length = pps.length
            · obtain ⟨g0, S0, q1, q2, q3⟩ := call_go (RS.ctx (k := k) (k' := atX k s2.heap H2) rfl (fun _ _ z => z) rs2) rv' b'
              refine run_g (us := .ref a :: us) (vs := .ref a :: ws) (dvs := []) h3 hr hgu h4 .nil (passAt tk σ) I2 (.cons rfl ru) ?_
              rw [List.append_nil]
              exact ⟨by rw [rv'.length, hlen], atX k s2.heap H2, g0, ds', S0, rfl, hj, lo, rfl, rfl, rfl, rfl, q1, q2, q3⟩
            · rw [callD_bad fun S => h5 _ S hlen] at b2
              exact b2.elim
          · exact b2.elim
        have rp : RP k.toKg g1 H1 (.ref a) (.ins c ns ps) := .ins t n e l r
        cases es with
        | nil =>
          obtain rfl := hnil rfl
          refine PySem.W.callWith_K0 (first := [.ref a]) I1.kIn h2.kp ?_
          exact go (us := []) I1 .nil rl1 rs1 (.cons rp .nil) ((show Bk k W σ g1 H1 ((R.ok [] S1 : R (List D)).bind fun ds S2 => methR cal k.fr s.mt L m (.p (.ins c ns ps)) ds S2) _ from b1).bind.here rs1)
        | cons e1 es1 =>
          rw [List.all_cons, Bool.and_eq_true] at hst
          refine PySem.W.callWith_K (first := [.ref a]) (h₀ := X.base) I1.ok.mod.kin h2.kp (thn (ha.run pos pins s1 σ H1 (fun ws H2 => ∃ g2 S2 ds, RL k g2 H2 σ L ∧ RS k g2 H2 S2 ∧ RDs k g2 H2 (.ref a :: ws) (.p (.ins c ns ps) :: ds) ∧ Bk k W σ g2 H2 (methR cal k.fr s.mt L m (.p (.ins c ns ps)) ds S2) fun d _ g' H' => ∀ v, RD k g' H' v d → Q v H') I1 ?_) fun us s2 ⟨ws, H2, I2, ru, g2, S2, ds, rl2, rs2, rd, b2⟩ => ⟨I2.kIn, ?_⟩) (star_of hst.1 es1 X.env) (noStars hst.2 X.env pos)
          · exact ⟨g1, L, S1, rl1, rs1, b1.bind.imp fun ds S2 g2 H2 x2 rs2 b2 ws rws => ⟨g2, S2, ds, rl1.mono x2, rs2, .cons (rp.mono x2) rws, b2⟩⟩
          · exact go I2 ru rl2 rs2 rd b2
    · cases hm
  · exact b1.elim
/-- isinstance(e, C), C an own class -/
theorem tyC_of {K : PySem.W.Frag} {g : Gs} {H : Hp} {v : V} {c : Nat} {ns : List Str} {ps : List P} {C : Addr} (r : RP k.toKg g H v (.ins c ns ps)) (hc : k.cl c = some C) (t : TyC k.K C) : TyX k.K H v (.ref C) := by
  cases r with
  | @ins a C' dx _ _ vs _ t' n e l r =>
    have e : k.cl c = some C' := e
    rw [hc] at e
    cases e
    exact .base (.ins t' t.cl t.ha t.hn t.htk t.hm)
theorem se_isc {e : Expr} {e' : E} {c i : Nat} {C : Addr} {x : Str} {p p2 pos : Pos} (hK : X.K = k.K) (F : ClF X k.toKg j cal s.mt s.pr s.mkt) (hi : s.mkt c = some i) (hC : k.cl c = some C) (hgl : Gl X "isinstance") (hm : X.mg "isinstance" = none) (hgx : Gl X x) (hmx : X.mg x = some (.ref C)) (hd : (x == ("__debug__" : Str)) = false) (hst : noStar e = true)
    (he : PE X e (rdE k W (s.e e'))) {fr : Nat} : PE X (.Call (.Name "isinstance" p) [e, .Name x p2] [] pos) (rdE k W (evE cal fr s (.isc c e'))) := by
  have ht : PE X (.Name x p2) (tC (.ref C)) := pe_glob (v := .ref C) hgx hmx rfl hd
  have ha := pa_cons he (pa_cons ht pa_nil rfl) (star_of hst [.Name x p2] X.env)
  refine PE.imp (pe_callB call_isi hgl hm (by decide +kernel) ha (by decide +kernel) (by decide +kernel) (star_of hst _ X.env) rfl) fun σ H Q h => ?_
  refine rdE.imp (rd_one (F := iscR s.mkt c) h) fun vx H1 q => ?_
  obtain ⟨g, y, S, rs, rx, bk⟩ := q
  unfold iscR at bk
  split at bk
  · rename_i z e1
    obtain ⟨bb, e3, w⟩ := evB_want rs bk
    have rr := rx.der rs e1
    have tyo := F.ty
    have iso := F.isO
    have isb := F.isB
    rw [hK] at tyo iso isb ⊢
    have bi : ∀ T, tyN z = some T → T ∈ kindsT → bb = false → ∃ (x_1 c_1 : V) (t u : Value) (b : Bool), [vx, V.ref C] = [x_1, c_1] ∧ ClsV c_1 u ∧ TyX k.K H1 x_1 t ∧ PySem.W.kitOne k.K t u = some b ∧ Q (.bl b) H1 := fun T hT hk hb => by
      subst hb
      exact ⟨vx, _, _, _, false, rfl, .own _, tyX_spec hT rr, isb c i C T hi hC hk, w⟩
    unfold isc1 at e3
    split at e3 <;> first | (cases e3; done) | (cases e3; exact bi _ rfl (by decide) rfl) | skip
    rename_i c' ns ps
    split at e3
    · rename_i hc'
      obtain ⟨i', hi'⟩ := Option.isSome_iff_exists.mp hc'
      cases e3
      rcases rr with rr | ⟨_, _, _, _, z, _⟩
      · have rr := rr
        have rr2 := rr
        cases rr2 with
        | @ins a C' dx _ _ vs _ t' n e l r => exact ⟨_, _, _, _, _, rfl, .own _, tyC_of (K := k.K) rr e (tyo c' i' C' hi' e), iso c i C c' i' C' hi hC hi' e, w⟩
      · cases z
    · cases e3
  · exact bk.elim
end
end Mn
/-! Mr12: instances made; lists of lambdas walked. -/
namespace Mn
open L2 PyProof.Rows PySem.Spec PySem
theorem make_guards {A : Around} {C : Addr} {us : List Value} {kw : List (Str × Value)} (h : A.guards = some []) : (A.under (.builtin "type.__call__" ⟨.ref C :: us, kw⟩)).guards = some [] := by
  first | exact h | simpa [Around.under, Code.weight, Code.isCreation, Code.isGuard, Code.isCaller, Code.frames, Code.isFrame, guardIds] using h
section
variable {X : Cx} {k : Ka} {W : WX} {cal : Nat → List D → Sto → R D} {s : Ev} {j : Nat}
/-- an instance is made, its __init__ walked -/
theorem mk_go {pins : List (Addr × Obj)} {σ : Ls} {H1 : Hp} {st : Shared} {g : Gs} {S : Sto} {L : Loc} {i np : Nat} {C ga : Addr} {fd : FuncData} {ps : List Str} {us : List Value} {vs : List V} {ds : List D} {Q : VK} (Kf : KF X k) (lo : ∀ m, m < k.fr → k.fc m = none) (hj : j ≤ k.fr) (M : L2.Mk X.K C ga)
    (F : GOk X.prog X.w X.K X.mg X.base j ga fd ps (spI k.toKg j np C (cal i))) (hp : ps.length = np + 1) (hb : Binds X.K fd ps []) (hbad : ∀ ds S, ds.length ≠ np → cal i ds S = .bad) (hr : RoomX j X.A) (hgu : X.A.guards = some []) (tk : Takes X W) (I : Inv X pins σ H1 st) (rv : Vals vs us) (rl : RL k g H1 σ L) (rs : RS k g H1 S) (rd : RDs k g H1 vs ds)
    (b : Bk k W σ g H1 (callR cal k.fr L i ds S) fun d _ g' H' => ∀ v, RD k g' H' v d → Q v H') : wpAny (model X.prog X.w) X.A (call (.ref C) us) (EP X pins σ Q) X.xe st := by
  have n1 : H1 (st.heap.objs.size + 1) = none := I.hok.fresh (Nat.le_succ _)
  have n2 : H1 st.heap.objs.size = none := I.hok.fresh (Nat.le_refl _)
  have n3 : st.heap.objs.size ≠ st.heap.objs.size + 1 := Nat.ne_of_lt (Nat.lt_succ_self _)
  have I2 := Inv.made (C := C) I
  generalize hH : upd (upd H1 st.heap.objs.size (.own (st.heap.objs.size + 1))) (st.heap.objs.size + 1) (.ins C st.heap.objs.size []) = H2 at I2
  generalize hs : ({ st with heap := (st.heap.push PySem.W.emptyDict).push (PySem.W.instObj C st.heap.objs.size) } : Shared) = s2 at I2
  unfold callR at b
  split at b
  · rename_i ds' e
    have rd' := ress_ok Kf I2 rl e rd
    have b' := Bk.ctx (k := k) (k' := atX k s2.heap H2) rfl (fun _ _ z => z) (fun d S' z => callD_end z) b
    by_cases hlen : ds'.length = np
    · obtain ⟨g0, S0, q1, q2, q3⟩ := call_go (RS.ctx (k := k) (k' := atX k s2.heap H2) rfl (fun _ _ z => z) rs) rd' b'
      have lv : vs.length = np := by rw [rd'.length, hlen]
      have hq : spI k.toKg j np C (cal i) s2.heap (.ref (st.heap.objs.size + 1) :: vs) H2 (fun v H3 => v = .non ∧ Q (.ref (st.heap.objs.size + 1)) H3) (WE W σ) :=
        ⟨congrArg (· + 1) lv, _, st.heap.objs.size, vs, H1, atX k s2.heap H2, g0, ds', S0, rfl, n1, n2, n3, hH.symm, rfl, hj, lo, rfl, rfl, rfl, rfl, q1, q2, q3.imp fun d S' g' H' _ _ q r => ⟨rfl, q _ r⟩⟩
      have r2 : Vals (V.ref (st.heap.objs.size + 1) :: vs) (Value.ref (st.heap.objs.size + 1) :: us) := .cons rfl rv
      have hl : ((Value.ref (st.heap.objs.size + 1) :: us) ++ []).length = ps.length := by
        rw [List.append_nil, ← r2.length, hp, List.length_cons, lv]
      have bt := hb s2 (Value.ref (st.heap.objs.size + 1) :: us) I2.kIn hl
      rw [List.append_nil] at bt
      refine wpAny_call (make_map (f := ga) I.kIn M.makes M.init (beq_iff_eq.mp M.fn) ?_)
      rw [hs]
      refine codeAny_mono (F.go _ X.stack s2 H2 ⟨Value.ref (st.heap.objs.size + 1) :: us, []⟩ (Value.ref (st.heap.objs.size + 1) :: us) _ _ _ (hr.make C us []) (make_guards hgu) (I2.env0.make C us []) bt r2 hq) fun r s' hq' => ?_
      cases r with
      | error e => exact passAt tk σ pins _ _ e s' I2 hq'
      | ok fl =>
        cases fl with
        | ret u =>
          obtain ⟨v, H', I3, rv', ev, q3⟩ := I2.after hq'
          subst ev
          exact ⟨rv', ⟨V.ref (st.heap.objs.size + 1), H', I3, rfl, q3⟩⟩
        | next => exact hq'.elim
        | brk => exact hq'.elim
        | cont => exact hq'.elim
    · rw [callD_bad fun S => hbad _ S hlen] at b
      exact b.elim
  · exact b.elim
theorem se_mk {es : List Expr} {es' : List E} {x : Str} {c i : Nat} {C : Addr} {p pos : Pos} (Kf : KF X k) (lo : ∀ m, m < k.fr → k.fc m = none) (hj : j ≤ k.fr) (F : ClF X k.toKg j cal s.mt s.pr s.mkt) (hi : s.mkt c = some i) (hC : k.cl c = some C) (hr : RoomX j X.A) (hgu : X.A.guards = some []) (tk : Takes X W) (hgx : Gl X x) (hmx : X.mg x = some (.ref C)) (hd : (x == ("__debug__" : Str)) = false)
    (hst : es.all noStar = true) (ha : PA X es (rdA k W (evs s es'))) (hnil : es = [] → es' = []) : PE X (.Call (.Name x p) es [] pos) (rdE k W (evE cal k.fr s (.mk c es'))) := by
  obtain ⟨ga, fd, ps, np, M, G, hp, hb, hbad⟩ := F.mkr c i C hi hC
  refine ⟨fun pins st σ H Q I h => ?_⟩
  obtain ⟨g, L, S, rl, rs, b⟩ := h
  have b : Bk k W σ g H ((evs s es' L S).bind fun ds S1 => mkR cal k.fr s.mkt L c ds S1) fun d _ g' H' => ∀ v, RD k g' H' v d → Q v H' := b
  unfold mkR at b
  rw [hi] at b
  dsimp only at b
  refine wpAny_Call_Name_kw (ld_glob I hgx hmx ?_ hd)
  cases es with
  | nil =>
    obtain rfl := hnil rfl
    exact PySem.W.callWith_K0 I.kIn M.kp (mk_go (us := []) Kf lo hj M G hp hb hbad hr hgu tk I .nil rl rs .nil ((show Bk k W σ g H ((R.ok [] S : R (List D)).bind fun ds S2 => callR cal k.fr L i ds S2) _ from b).bind.here rs))
  | cons e1 es1 =>
    rw [List.all_cons, Bool.and_eq_true] at hst
    refine PySem.W.callWith_K (h₀ := X.base) I.ok.mod.kin M.kp (thn (ha.run pos pins st σ H (fun ws H2 => ∃ g2 S2 ds, RL k g2 H2 σ L ∧ RS k g2 H2 S2 ∧ RDs k g2 H2 ws ds ∧ Bk k W σ g2 H2 (callR cal k.fr L i ds S2) fun d _ g' H' => ∀ v, RD k g' H' v d → Q v H') I ?_) fun us s2 ⟨ws, H2, I2, ru, g2, S2, ds, rl2, rs2, rd, b2⟩ => ⟨I2.kIn, ?_⟩) (star_of hst.1 es1 X.env) (noStars hst.2 X.env pos)
    · exact ⟨g, L, S, rl, rs, b.bind.imp fun ds S2 g2 H2 x2 rs2 b2 ws rws => ⟨g2, S2, ds, rl.mono x2, rs2, rws, b2⟩⟩
    · exact mk_go Kf lo hj M G hp hb hbad hr hgu tk I2 ru rl2 rs2 rd b2
end
end Mn
/-! Mr13: a comprehension whose element is told where its block begins: [word(f) for f in lambdas]. -/
namespace Mn
open L2 PyProof.Rows PySem.Spec PySem
/-- no cell of the frame is one of these -/
def Shun (X : Cx) (fp : List Addr) : Prop := ∀ b ∈ fp, ∀ y c, X.env.cells.lookup y = some c → c ≠ b
/-- .. its reading: what is asked of the turns is asked where the block begins -/
def tLcR (X : Cx) (wi : TI) (g : Heap → Hp → List Addr → TG) (te : Heap → Hp → List Addr → TE) (vs : List Nat) : TE := fun τ G Q => wi τ G fun J G1 => ∀ D, G1 D = none → ∀ (pn : List (Addr × Obj)) (sb : Shared) (fp : List Addr), Inv X pn τ (upd G1 D (.lst [])) sb → Shun X fp → ∃ W : Nat → Nat → Hp → Prop,
  (∃ m, W 0 m (upd G1 D (.lst []))) ∧ ∀ i m G2, W i m G2 → (J.stop i G2 ∧ Q (.ref D) G2) ∨ (J.go i G2 ∧ ∃ Nx : Hp → Prop, (∀ G3, Nx G3 → ∃ m', m' < m ∧ W (i + 1) m' G3) ∧
    ∀ x G3, J.yld i G2 x G3 → g sb.heap (upd G1 D (.lst [])) fp x (wipe τ vs) G3 fun τ4 G4 => wipe τ4 vs = wipe τ vs ∧ te sb.heap (upd G1 D (.lst [])) fp τ4 G4 fun y G5 => ∃ acc, G5 D = some (.lst acc) ∧ acc.length < sizeLine ∧ Nx (upd G5 D (.lst (acc ++ [y]))))
section
variable {X : Cx}
theorem lcr_core {pn : List (Addr × Obj)} {st : Shared} {τ : Ls} {G : Hp} {Q : VK} {elt tg iter : Expr} {scope : Scope} {ow : List (Str × Nat)} {pos pos' : Pos} {wi : TI} {g : Heap → Hp → List Addr → TG} {te : Heap → Hp → List Addr → TE} {use : Option (Value → Sem Unit)} {Qf : Value → Shared → Prop}
    (calm : X.calm = true) (nd : X.N.Nodup) (J0 : Inv X pn τ G st) (walks : PI X tg iter wi) (ok : BlkOk X.N X.env.scope scope ow)
    (tgs : ∀ (sb : Shared) (Gb : Hp) (C : Addr) (cl : List (Str × Addr)) (fp : List Addr), Shun X fp → PG (X.blk sb Gb scope (compEnvC scope cl C X.env) fp) tg (g sb.heap Gb fp))
    (els : ∀ (sb : Shared) (Gb : Hp) (C : Addr) (cl : List (Str × Addr)) (fp : List Addr), Shun X fp → PE (X.blk sb Gb scope (compEnvC scope cl C X.env) fp) elt (te sb.heap Gb fp)) (fold : ∀ x, foldedSetIterable iter X.env x = pure x)
    (ask : tLcR X wi g te (ow.map (·.2)) τ G Q)
    (out : ∀ D C s' m G', Inv X pn τ G' s' → Q (.ref D) G' → s'.heap.Ns C m → FpOk X pn G' C → compPost (model X.prog X.w) X.A X.xe use Qf (.ref D) C (.ok .next) s') :
    wpAny (model X.prog X.w) X.A (comprehension (.ListComp elt [⟨tg, iter, [], 0⟩] scope pos) scope X.env pos' (newList []) false (eval iter X.env) use) Qf X.xe st := by
  have caught : ∀ y ∈ scope.names, y.2 = .free → ∃ c, X.env.cells.lookup y.1 = some c := fun y hy e =>
    (ok.free y hy e).elim (fun q => J0.ok.has _ (.inl q)) fun q => J0.ok.has _ (.inr q)
  refine wpAny_comprehension_free (use := use) rfl fold (closure_ok caught) ok.kind (fun y hy e => by rw [ok.uniq y hy, e]) (thn (walks.run pn st τ G _ J0 ask) fun _ _ hx => thn hx fun _ st2 z => ?_)
  obtain ⟨it, fp, tn, J, G2, rfl, J2, T, at2, free2, more⟩ := z
  refine wpAny_newObj_type (newEnv_comp ?_) (show 0 ≤ sizeLine by decide)
  generalize eD : st2.heap.objs.size = D
  have noD : G2 D = none := J2.hok.fresh (Nat.le_of_eq eD)
  generalize e3 : ({ st2 with heap := st2.heap.push { cls := .type "list", data := .seq ([] : List Value).toArray } } : Shared) = sb
  have hb : sb.heap = st2.heap.push { cls := .type "list", data := .seq ([] : List Value).toArray } := by rw [← e3]
  have J3 : Inv X pn τ (upd G2 D (.lst [])) sb := by
    rw [← e3]
    refine J2.laid (t' := st2.toks) (fun b o e => Heap.get?_push_of_some _ e) (Nat.le_of_eq eD) ⟨Nat.zero_le _, [], 0, .nil, ?_⟩
    rw [← eD]
    exact Heap.get?_push_size _ rfl
  have below : ∀ b ∈ fp, b < st2.heap.objs.size := fun b hb => let ⟨_, e, _⟩ := T.obj _ _ at2 b hb; Heap.lt_size e
  have free3 : ∀ b ∈ fp, FpOk X pn (upd G2 D (.lst [])) b ∧ b < sb.heap.objs.size := fun b hb' => by
    have lt := below b hb'
    refine ⟨⟨?_, (free2 b hb').2⟩, by rw [hb, Heap.size_push]; exact Nat.lt_succ_of_lt lt⟩
    rw [upd_ne (by rw [← eD]; exact Nat.ne_of_lt lt)]
    exact (free2 b hb').1
  have shun : Shun X fp := fun b hb' y c e => (free3 b hb').1.2.2.2.2.1 y c e
  obtain ⟨W, ⟨m0, w0⟩, turn⟩ := more D noD pn sb fp J3 shun
  have at3 : tn 0 sb.heap := T.keep _ _ _ at2 fun b _ o e => by rw [hb]; exact Heap.get?_push_of_some _ e
  have J4 := block_start J3 ok nd free3
  have pg := tgs sb (upd G2 D (.lst [])) sb.heap.objs.size (cellsFrom (sb.heap.objs.size + 1) scope.names (cloFrom X.env.cells scope.names [])) fp shun
  have pe := els sb (upd G2 D (.lst [])) sb.heap.objs.size (cellsFrom (sb.heap.objs.size + 1) scope.names (cloFrom X.env.cells scope.names [])) fp shun
  show codeAny _ _ (.compStart (.ListComp elt [⟨tg, iter, [], 0⟩] scope pos) 0 (.ref it) (.ref D) (compEnvC scope (cellsFrom (sb.heap.objs.size + 1) scope.names (cloFrom X.env.cells scope.names [])) sb.heap.objs.size X.env))
    (compPost (model X.prog X.w) X.A X.xe use Qf (.ref D) sb.heap.objs.size) { sb with heap := pushCells (sb.heap.push { cls := .type "dict", data := .dict #[] }) scope.names }
  have none3 : ∀ b ∈ fp, (upd G2 D (.lst [])) b = none := fun b hb' => (free3 b hb').1.1
  generalize eC : compEnvC scope (cellsFrom (sb.heap.objs.size + 1) scope.names (cloFrom X.env.cells scope.names [])) sb.heap.objs.size X.env = cv at J4 pg pe ⊢
  have locC : cv.locals = sb.heap.objs.size := by subst eC; rfl
  generalize eG : upd G2 D (.lst []) = G3 at J3 J4 pg pe w0 none3 free3 turn
  generalize e4 : ({ sb with heap := pushCells (sb.heap.push { cls := .type "dict", data := .dict #[] }) scope.names } : Shared) = s4 at J4 ⊢
  have at4 : tn 0 s4.heap := T.keep _ _ _ at3 fun b _ o e => by rw [← e4]; exact pushCells_keeps _ _ _ _ (Heap.get?_push_of_some _ e)
  have okf : ∀ {τ' : Ls} {G' : Hp} {s' : Shared}, Inv (X.blk sb G3 scope cv fp) [] τ' G' s' → (∀ b ∈ fp, G' b = none) → ∀ b ∈ fp, FpOk (X.blk sb G3 scope cv fp) [] G' b := fun {τ' G' s'} J' nn b hb' =>
    ⟨nn b hb', (J'.ok.exf b hb').1, J'.ok.exfs b hb', .inl hb', fun y c e => (J'.ok.exf b hb').2 y c e, fun p hp => nomatch (show p ∈ ([] : List (Addr × Obj)) from hp)⟩
  have loop : codeAny (model X.prog X.w) X.A (.compLoop (.ListComp elt [⟨tg, iter, [], 0⟩] scope pos) 0 (.ref it) (.ref D) cv) (compPost (model X.prog X.w) X.A X.xe use Qf (.ref D) sb.heap.objs.size) s4 := by
    refine compLoop_any (fun n s' => ∃ i G', Inv (X.blk sb G3 scope cv fp) [] (wipe τ (ow.map (·.2))) G' s' ∧ tn i s'.heap ∧ (∀ b ∈ fp, G' b = none) ∧ W i n G') ?_ m0 ⟨0, G3, J4, at4, none3, w0⟩
    rintro n s5 ⟨i, G5, J5, at5, n5, w5⟩
    rcases turn i n G5 w5 with ⟨stop, done⟩ | ⟨go, Nx, less, step⟩
    · refine thnF (T.done (X.blk sb G3 scope cv fp) rfl rfl rfl calm i [] s5 _ G5 (fun _ _ => False) J5 (okf J5 n5) at5 stop) fun r s6 ⟨hr, J6⟩ => ?_
      subst hr
      have J7 : Inv X pn τ G5 s6 := J3.call' (ch := fp) J6.os J6.base J6.hok J6.bare fun b hb' => ⟨(free3 b hb').1.2.2.2.1, (free3 b hb').1.2.1, (free3 b hb').1.2.2.2.2.1, (free3 b hb').1.2.2.2.2.2⟩
      have noC : G5 sb.heap.objs.size = none := by
        have q : G5 cv.locals = none := J6.free
        rwa [locC] at q
      obtain ⟨m, ns, _⟩ := J6.loc
      have ns : s6.heap.Ns cv.locals m := ns
      rw [locC] at ns
      exact out D sb.heap.objs.size s6 m G5 J7 done ns (J3.fpOk (Nat.le_refl _) noC)
    · refine thnF (T.item (X.blk sb G3 scope cv fp) rfl rfl rfl calm i [] s5 _ G5 (fun _ _ => False) J5 (okf J5 n5) at5 go) fun r s6 ⟨u, hr, h6⟩ => ?_
      subst hr
      refine thnF h6 fun _ s7 ⟨x, G7, J7, r7, y7, at7, n7⟩ => ?_
      refine thnF (pg.run _ s7 _ G7 x u _ (J7.pinned (okf J7 n7) (T.obj _ _ at7)) r7 (step x G7 y7)) fun _ s8 ⟨τ8, G8, J8, w8, q8⟩ => ?_
      refine thnF ((pts_nil (X := X.blk sb G3 scope cv fp)).run _ s8 τ8 G8 (fun b G' => b = true ∧ G' = G8) J8 ⟨rfl, rfl⟩) fun b s9 ⟨G9, J9, eb, eG9⟩ => ?_
      subst eb eG9
      rw [if_pos rfl]
      refine thnF (pe.run _ s9 τ8 G9 _ J9 q8) fun z s10 ⟨yv, G10, J10, r10, acc, hD10, hz10, nx⟩ => ?_
      refine app_ok (X := X.blk sb G3 scope cv fp) J10 hD10 hz10 r10 fun s11 J11 => ?_
      obtain ⟨m', lt, w'⟩ := less _ nx
      have pinned : ∀ b ∈ fp, ∀ o, s7.heap.get? b = some o → s11.heap.get? b = some o ∧ upd G10 D (.lst (acc ++ [yv])) b = none := fun b hb' o e =>
        let q := J11.pin (b, o) (List.mem_append_right _ (List.mem_append_right _ (mem_pinsAt hb' e)))
        ⟨q.1, q.2.1⟩
      refine ⟨m', lt, i + 1, _, (J11.unpinned (pins := [])).weak (by rw [← w8, wipe_length]) (fun l v e => ?_), T.keep _ _ _ at7 fun b hb' o e => (pinned b hb' o e).1, fun b hb' => ?_, w'⟩
      · rw [← w8] at e
        exact (wipe_some e).1
      · obtain ⟨o, e, _⟩ := T.obj _ _ at7 b hb'
        exact (pinned b hb' o e).2
  exact codeAny_compStart_list loop (T.self X.A 0 _ _ _ at4 loop)
theorem pe_lcr {elt tg iter : Expr} {scope : Scope} {ow : List (Str × Nat)} {pos : Pos} {wi : TI} {g : Heap → Hp → List Addr → TG} {te : Heap → Hp → List Addr → TE} (calm : X.calm = true) (nd : X.N.Nodup) (walks : PI X tg iter wi) (ok : BlkOk X.N X.env.scope scope ow)
    (tgs : ∀ (sb : Shared) (Gb : Hp) (C : Addr) (cl : List (Str × Addr)) (fp : List Addr), Shun X fp → PG (X.blk sb Gb scope (compEnvC scope cl C X.env) fp) tg (g sb.heap Gb fp))
    (els : ∀ (sb : Shared) (Gb : Hp) (C : Addr) (cl : List (Str × Addr)) (fp : List Addr), Shun X fp → PE (X.blk sb Gb scope (compEnvC scope cl C X.env) fp) elt (te sb.heap Gb fp)) (fold : ∀ x, foldedSetIterable iter X.env x = pure x) :
    PE X (.ListComp elt [⟨tg, iter, [], 0⟩] scope pos) (tLcR X wi g te (ow.map (·.2))) := by
  refine ⟨fun pn st τ G Q J0 ask => ?_⟩
  rw [eval_ListComp]
  refine lcr_core calm nd J0 walks ok tgs els fold ask fun D C s' m G' J' q ns f => ⟨m, ns, fun h2 sb => ?_⟩
  obtain ⟨f0, f1, f2, f3, f4, f5⟩ := f
  exact ⟨V.ref D, G', J'.turned (t' := s'.toks) (fun b o hb e => (sb.2 b hb).trans e) f0 f1 f3 f4 f5, rfl, q⟩
end
end Mn
/-! Mr14: [word(f) for f in lambdas], by the evaluator. -/
namespace Mn
open L2 PyProof.Rows PySem.Spec PySem
/-- a block's frame -/
def kb (k : Ka) (h : Heap) (H : Hp) (fp : List Addr) : Ka := { k with h0 := h, H0 := H, ex := fp }
section
variable {k k' : Ka} {g : Gs} {H : Hp} {σ : Ls} {L : Loc}
theorem noClo_at : ∀ {L : Loc} {i : Nat} {d : D}, (noClo L)[i]? = some (some d) → L[i]? = some (some d) ∧ putD d = true
  | [], _, _, e => by simp [noClo] at e
  | o :: L, 0, d, e => by
    have e : noC o = some d := by simpa [noClo] using e
    cases o with
    | none => cases e
    | some d' => cases d' <;> first | (cases e; exact ⟨rfl, rfl⟩) | cases e
  | o :: L, i + 1, d, e => noClo_at (L := L) (i := i) (by simpa [noClo] using e)
theorem noClo_len : ∀ {L : Loc}, (noClo L).length = L.length
  | [] => rfl
  | o :: L => congrArg (· + 1) (noClo_len (L := L))
theorem RL.noClo (e : k.toKg = k'.toKg) (f : ∀ n x, k.fc n = some x → k'.fc n = some x) (rl : RL k g H σ L) : RL k' g H σ (noClo L) :=
  ⟨by rw [noClo_len]; exact rl.1, fun i d z => by
    obtain ⟨z1, z2⟩ := noClo_at z
    obtain ⟨v, h1, h2⟩ := rl.2 i d z1
    exact ⟨v, h1, h2.ctx e f z2⟩⟩
theorem RLs.length {n : Nat} {vs : List V} {ls : List (Nat × List Nat)} (h : RLs k g H n vs ls) : vs.length = ls.length := by
  induction h with
  | nil => rfl
  | cons _ _ ih => exact congrArg (· + 1) ih
theorem RLs.get {n : Nat} {vs : List V} {ls : List (Nat × List Nat)} (h : RLs k g H n vs ls) : ∀ {i : Nat} {q : Nat × List Nat}, ls[i]? = some q → ∃ v, vs[i]? = some v ∧ RLam k g H n v q := by
  induction h with
  | nil => intro i q e; simp at e
  | @cons v vs q ls a _ ih =>
    intro i q' e
    cases i with
    | zero =>
      cases e
      exact ⟨v, rfl, a⟩
    | succ i => exact ih (i := i) (by simpa using e)
end
section
variable {X : Cx} {k : Ka} {W : WX} {cal : Nat → List D → Sto → R D} {s : Ev} {j : Nat}
theorem clo_avoid {pn : List (Addr × Obj)} {σ : Ls} {H : Hp} {sb : Shared} {t : LamT} {fp : List Addr} (I : Inv X pn σ H sb) (hf : ∀ y ∈ t.scope.names, y.2 = .free → ∃ c, X.env.cells.lookup y.1 = some c) (sh : Shun X fp) : ∀ y c, (cloFrom X.env.cells t.scope.names []).lookup y = some c → c ∉ fp := by
  intro y c e hm
  exact sh c hm y c (NdefX.clo_cm hf e) rfl
/-- one of the lambdas, where the block begins -/
theorem lam_at {pn : List (Addr × Obj)} {σ : Ls} {H1 H3 : Hp} {g : Gs} {sb : Shared} {L : Loc} {fp : List Addr} {v : V} {q : Nat × List Nat} {d : D} (F : KF X k) (I : Inv X pn σ H3 sb) (sh : Shun X fp) (rl : RL k g H1 σ L) (r : RLam k g H1 k.fr v q) (e : lamC L q = some d) : RD (kb k sb.heap H3 fp) g H1 v d := by
  obtain ⟨f, sl⟩ := q
  cases sl with
  | nil =>
    cases e
    exact r
  | cons i sl =>
    obtain ⟨cs, h1, rfl⟩ := Option.map_eq_some_iff.mp (show (caps L (i :: sl)).map (D.clo f) = some d from e)
    obtain ⟨a, t, cl, N, sc, h2, h3, h4, h5, h6⟩ := r
    rw [F.fc] at h3
    cases h3
    refine ⟨a, t, _, _, h2, h4, ⟨NdefX.cells_of I (NdefX.Caps.made I.ok (NdefX.ndef_free h6) (NdefX.ndef_fr h6) h5), clo_avoid I (fun y hy e => ?_) sh⟩, caps_rc rl h1⟩
    rcases NdefX.ndef_free h6 y hy e with z | z
    · exact I.ok.has _ (.inl z)
    · exact I.ok.has _ (.inr z)
theorem se_lcR {own : Bool} {ow : List (Str × Nat)} {tg : Tg} {e' el : E} {elt tgE iter : Expr} {scope : Scope} {pos : Pos} (hK : X.K = k.K) (F : KF X k) (hc : X.calm = true) (hN : X.N.Nodup) (hi : PE X iter (rdE k W (s.e e'))) (ok : BlkOk X.N X.env.scope scope ow) (hsl : ∀ i ∈ slots tg, i ∈ ow.map (·.2)) (hsf : ∀ x, foldedSetIterable iter X.env x = pure x)
    (hg : ∀ (sb : Shared) (Gb : Hp) (C : Addr) (cl : List (Str × Addr)) (fp : List Addr), PG (X.blk sb Gb scope (compEnvC scope cl C X.env) fp) tgE (rdG (kb k sb.heap Gb fp) tg))
    (he : ∀ (sb : Shared) (Gb : Hp) (C : Addr) (cl : List (Str × Addr)) (fp : List Addr), Shun X fp → PE (X.blk sb Gb scope (compEnvC scope cl C X.env) fp) elt (rdE (kb k sb.heap Gb fp) WN (s.e el))) :
    PE X (.ListComp elt [⟨tgE, iter, [], 0⟩] scope pos) (rdE k W (evE cal k.fr s (.lcR own (ow.map (·.2)) tg e' el))) := by
  refine PE.imp (pe_lcr (g := fun h G fp => rdG (kb k h G fp) tg) (te := fun h G fp => rdE (kb k h G fp) WN (s.e el)) hc hN (pi_any hi) ok (fun sb Gb C cl fp _ => hg sb Gb C cl fp) he hsf) fun σ H Q h => ?_
  obtain ⟨g, L, S, rl, rs, b⟩ := h
  generalize ow.map (·.2) = vs at *
  refine ⟨g, L, S, rl, rs, b.bind.imp fun d S1 g1 H1 e1 rs1 b1 v rv => ?_⟩
  split at b1 <;> first | exact b1.elim | skip
  rename_i ls n
  split at b1
  · rename_i hn
    obtain rfl := Nat.eq_of_beq_eq_true hn
    obtain ⟨a, ws, rfl, ha, na, rls⟩ := rv
    refine .inr (.inl ⟨a, ws, rfl, .inl (.inl ha), fun D hD pn sb fp I3 sh => ?_⟩)
    obtain ⟨xs, S3, run, b2⟩ := noEx_bk b1
    let k' := kb k sb.heap (upd H1 D (.lst [])) fp
    have k1 : k'.toKg = k.toKg := rfl
    have k2 : ∀ n x, k.fc n = some x → k'.fc n = some x := fun _ _ z => z
    have k3 : ∀ n x, k'.fc n = some x → k.fc n = some x := fun _ _ z => z
    have rl1 := rl.mono e1
    have rlw : RL k' g1 H1 (L2.wipe σ vs) (noClo (wipeL L vs)) := RL.noClo k1.symm k2 (rl1.wipe vs)
    refine ⟨fun i m H' => m = ls.length - i ∧ i ≤ ls.length ∧ ∃ gs S' acc x0 ys, Mk k g1 H1 D gs H' S' acc x0 ∧ lcR s L (noClo (wipeL L vs)) tg el (ls.drop i) S' = .ok ys S3 ∧ xs = x0 ++ ys, ⟨_, rfl, Nat.zero_le _, g1.sh D, S1, [], [], xs, Mk.start rs1 hD, run, rfl⟩, ?_⟩
    rintro i m H2 ⟨rfl, hi, gs, S', acc, x0, ys, mk, lr, rfl⟩
    have t2 : SqL X.K H2 a ws := .inl (.inl (mk.gr.kp _ _ ha trivial na))
    by_cases hlt : i < ls.length
    · refine .inr ?_
      have ep : ls[i]? = some ls[i] := List.getElem?_eq_getElem hlt
      obtain ⟨w, ew, rw0⟩ := rls.get ep
      refine ⟨⟨ws, w, t2, ew⟩, fun H3 => ∃ gs S' acc x0' ys', Mk k g1 H1 D gs H3 S' acc x0' ∧ lcR s L (noClo (wipeL L vs)) tg el (ls.drop (i + 1)) S' = .ok ys' S3 ∧ x0 ++ ys = x0' ++ ys',
        fun H3 q => ⟨ls.length - (i + 1), by omega, rfl, hlt, q⟩, fun x H3 y => ?_⟩
      obtain ⟨rfl, y⟩ := y
      have ez := Option.some.inj ((y ws t2).symm.trans ew)
      subst ez
      rw [List.drop_eq_getElem_cons hlt] at lr
      unfold lcR at lr
      cases ea : (lamC L ls[i]).bind fun d => asg tg d (noClo (wipeL L vs)) with
      | none => rw [ea] at lr; cases lr
      | some L1 =>
        rw [ea] at lr
        dsimp only at lr
        obtain ⟨d, ed, ea⟩ := Option.bind_eq_some_iff.mp ea
        have rd : RD k' g1 H1 x d := lam_at F I3 sh rl1 rw0 ed
        refine ⟨gs, _, d, L1, rlw.gr mk.gr, rd.gr mk.gr, ea, fun σ1 rl2 out => ⟨wipe_out out hsl, ?_⟩⟩
        obtain ⟨d5, S5, r5, run5⟩ := R.bind_ok lr
        refine ⟨gs, L1, S', rl2, mk.rs.ctx k1.symm k2, ?_⟩
        rw [r5]
        intro g5 H5 e5 rs5 v rv
        cases d5 with
        | p z =>
          obtain ⟨zs, S6, r6, run6⟩ := R.bind_ok run5
          cases run6
          have mk5 := mk.step e5 (rs5.ctx k1 k3)
          have rv : RP k.toKg g5 H5 v z := rv
          refine ⟨acc, mk5.at_, ?_, g5, S5, acc ++ [v], x0 ++ [z], zs, mk5.app rv, r6, by rw [List.append_assoc]; rfl⟩
          have hl := mk5.ac.length
          have hl2 : (x0 ++ z :: zs).length < line := by
            by_cases hx : (x0 ++ z :: zs).length < line
            · exact hx
            · rw [if_neg hx] at b2; exact b2.elim
          rw [List.length_append] at hl2
          rw [← line_eq, hl]
          have : (z :: zs).length = zs.length + 1 := rfl
          omega
        | _ => cases run5
    · have e : i = ls.length := by omega
      subst e
      refine .inl ⟨⟨ws, t2, by rw [rls.length]; exact Nat.le_refl _⟩, ?_⟩
      rw [List.drop_length] at lr
      unfold lcR at lr
      cases lr
      rw [List.append_nil] at b2
      split at b2
      · split at b2
        · obtain ⟨q1, q2, q3⟩ := mk.own rs1
          exact b2 _ _ q1 q2 _ q3
        · obtain ⟨q1, q2⟩ := mk.frz rs1
          exact b2 _ _ mk.ext q1 _ q2
      · exact b2.elim
  · exact b1.elim
/-! ### a def called in such a block -/
/-- what is known of the block's beginning -/
structure KB (X : Cx) (k : Ka) : Prop where
  h0 : X.s_0.heap = k.h0
  H0 : X.H_0 = k.H0
  ex : X.ex = k.ex
theorem pureK_ok {pins : List (Addr × Obj)} {st : Shared} {σ : Ls} {H : Hp} {g : Gs} (F : KB X k) (I : Inv X pins σ H st) : ∀ {ds : List D} {vs : List V}, ds.all pureK = true → RDs k g H vs ds → RDs (atX k st.heap H) g H vs ds
  | [], _, _, h => by cases h; exact .nil
  | d :: ds, _, e, h => by
    rw [List.all_cons, Bool.and_eq_true] at e
    cases h with
    | cons a b =>
      refine .cons ?_ (pureK_ok F I e.2 b)
      cases d with
      | p x => exact a
      | ref n => exact a
      | clo f cs =>
        obtain ⟨a, t, cl, ws, h2, h4, h5, h6⟩ := a
        refine ⟨a, t, cl, ws, h2, h4, ⟨cells_later ?_ (fun y c z => by rw [F.ex]; exact h5.2 y c z) I, fun _ _ _ z => nomatch z⟩, h6⟩
        rw [F.h0, F.H0]
        exact h5.1
      | _ => cases e.1
theorem conv_K {np i : Nat} {dvs : List V} (F : KB X k) (lo : ∀ m, m < k.fr → k.fc m = none) (hj : j ≤ k.fr) : Conv X (spD k.toKg j np (cal i)) dvs (WE W) (FinC k W np (fun _ ds S => callK cal i ds S) dvs) := by
  rintro pins st σ vs H Q I ⟨hl, g, L, S, ds, rs, rl, rv, b⟩
  unfold callK at b
  dsimp only at b
  split at b
  · rename_i e
    have rv' := pureK_ok F I e rv
    have b' := Bk.ctx (k := k) (k' := atX k st.heap H) rfl (fun _ _ z => z) (fun d S' z => callD_end z) b
    obtain ⟨g0, S0, q1, q2, q3⟩ := call_go (RS.ctx (k := k) (k' := atX k st.heap H) rfl (fun _ _ z => z) rs) rv' b'
    exact ⟨hl, atX k st.heap H, g0, ds, S0, rfl, hj, lo, rfl, rfl, rfl, rfl, q1, q2, q3⟩
  · exact b.elim
theorem se_callK {f : Addr} {fd : FuncData} {ps : List Str} {x : Str} {p pos : Pos} {es : List Expr} {dvs : List V} {dps : List P} {uds : List Value} {i n np : Nat} {G : Prog} {es' : List E} (Kf : KB X k) (lo : ∀ m, m < k.fr → k.fc m = none) (hj : j ≤ k.fr) (F : GOk X.prog X.w X.K X.mg X.base j f fd ps (spD k.toKg j np (cal i))) (hr : Room j X.A) (hgu : X.A.guards = some []) (tk : Takes X W) (hg : Gl X x) (hm : X.mg x = some (.ref f)) (hk : PySem.W.keepIn X.K (.ref f) = true)
    (hb : Binds X.K fd ps uds) (hdv : Vals dvs uds) (hd : KPs k.toKg dvs dps) (hdb : (x == ("__debug__" : Str)) = false) (hst : es.all noStar = true) (ha : PA X es (rdA k W (evs (ev G cal k.fr n) es'))) (hl : es'.length + dps.length = np) (hnil : es = [] → es' = []) :
    PE X (.Call (.Name x p) es [] pos) (rdE k W (evE cal k.fr (ev G cal k.fr n) (.callK i (es' ++ dps.map .k)))) := se_callG (run := fun _ ds S => callK cal i ds S) F (conv_K Kf lo hj) hr hgu tk hg hm hk hb hdv hd hdb hst ha hl hnil
end
end Mn
/-! Mr15: starred displays, dicts asked and walked, texts in braces, list.count, list.index. -/
namespace Mn
open L2 PyProof.Rows PySem.Spec PySem
section
variable {X : Cx} {k : Ka} {W : WX} {cal : Nat → List D → Sto → R D} {fr : Nat} {s : Ev}
/-! ### starred items -/
def rdP (k : Ka) (W : WX) (f : Loc → Sto → R (List P)) : L2.TA := fun σ H Q => ∃ g L S, RL k g H σ L ∧ RS k g H S ∧ Bk k W σ g H (f L S) fun ps _ g' H' => ∀ vs, RPs k.toKg g' H' vs ps → Q vs H'
theorem rdP.imp {f : Loc → Sto → R (List P)} {σ : Ls} {H : Hp} {Q Q' : List V → Hp → Prop} (h : rdP k W f σ H Q) (i : ∀ v H', Q v H' → Q' v H') : rdP k W f σ H Q' := by
  obtain ⟨g, L, S, rl, rs, b⟩ := h
  exact ⟨g, L, S, rl, rs, b.imp fun d S' g' H' _ _ q v r => i v H' (q v r)⟩
theorem sp_nil : PA X [] (rdP k W (evsS s [] [])) := by
  refine PA.imp pa_nil fun σ H Q h => ?_
  obtain ⟨g, L, S, rl, rs, b⟩ := h
  exact b.here rs [] .nil
theorem spl_f {d : D} {qs : List P} (h : spl false d = some qs) : ∃ x, d = .p x ∧ qs = [x] := by
  cases d <;> first | (cases h; done) | skip
  cases h
  exact ⟨_, rfl, rfl⟩
theorem sp_cons {bs : List Bool} {e : Expr} {es : List Expr} {e' : E} {es' : List E} (hst : noStar e = true) (he : PE X e (rdE k W (s.e e'))) (hes : PA X es (rdP k W (evsS s bs es'))) : PA X (e :: es) (rdP k W (evsS s (false :: bs) (e' :: es'))) := by
  refine PA.imp (pa_cons he hes (star_of hst es X.env)) fun σ H Q h => ?_
  obtain ⟨g, L, S, rl, rs, b⟩ := h
  refine ⟨g, L, S, rl, rs, b.bind.imp fun x S1 g1 H1 e1 rs1 b1 vx rx => ?_⟩
  split at b1
  · rename_i qs eq
    obtain ⟨y, rfl, rfl⟩ := spl_f eq
    refine ⟨g1, L, S1, rl.mono e1, rs1, b1.bind.imp fun ps S2 g2 H2 e2 rs2 b2 vs rvs => ?_⟩
    exact b2.here rs2 _ (.cons (RP.mono e2 rx) rvs)
  · exact b1.elim
theorem sp_star {bs : List Bool} {e : Expr} {es : List Expr} {e' : E} {es' : List E} {p : Pos} (hK : X.K = k.K) (he : PE X e (rdE k W (s.e e'))) (hes : PA X es (rdP k W (evsS s bs es'))) : PA X (.Starred e p :: es) (rdP k W (evsS s (true :: bs) (e' :: es'))) := by
  refine PA.imp (StX.pa_star he hes rfl) fun σ H Q h => ?_
  obtain ⟨g, L, S, rl, rs, b⟩ := h
  refine ⟨g, L, S, rl, rs, b.bind.imp fun x S1 g1 H1 e1 rs1 b1 vx rx => ?_⟩
  split at b1
  · rename_i qs eq
    have go : ∀ vs, RPs k.toKg g1 H1 vs qs → rdP k W (evsS s bs es') σ H1 fun ys H2 => Q (vs ++ ys) H2 := fun vs r =>
      ⟨g1, L, S1, rl.mono e1, rs1, b1.bind.imp fun ps S2 g2 H2 e2 rs2 b2 ws rws => b2.here rs2 _ ((r.mono e2).append rws)⟩
    cases x <;> first | (cases eq; done) | skip
    rename_i z
    cases z <;> first | (cases eq; done) | skip
    · cases eq
      cases (show RP k.toKg g1 H1 vx (.tup qs) from rx) with
      | tup t r => exact ⟨_, _, rfl, .inl (by rw [hK]; exact t.sq), go _ r⟩
    · cases eq
      cases (show RP k.toKg g1 H1 vx (.lst qs) from rx) with
      | lst t n r => exact ⟨_, _, rfl, .inr (.inl (.inl t)), go _ r⟩
  · exact b1.elim
theorem se_starT {bs : List Bool} {es : List Expr} {es' : List E} {x1 : Nat} {pos : Pos} (he : PA X es (rdP k W (evsS s bs es'))) : PE X (.Tuple es x1 pos) (rdE k W (evE cal fr s (.star true bs es'))) := by
  refine PE.imp (pe_tup he) fun σ H Q h => ?_
  obtain ⟨g, L, S, rl, rs, b⟩ := h
  refine ⟨g, L, S, rl, rs, b.bind.imp fun ps S1 g1 H1 x1 rs1 b1 vs rv => ?_⟩
  unfold starR at b1
  split at b1
  · rename_i hl
    exact ⟨by rw [rv.length, ← line_eq]; exact Nat.le_of_ble_eq_true hl, (Bk.okE b1).tup rs1 rv⟩
  · exact b1.elim
theorem se_starL {bs : List Bool} {es : List Expr} {es' : List E} {pos : Pos} (he : PA X es (rdP k W (evsS s bs es'))) : PE X (.List es pos) (rdE k W (evE cal fr s (.star false bs es'))) := by
  refine PE.imp (pe_lst he) fun σ H Q h => ?_
  obtain ⟨g, L, S, rl, rs, b⟩ := h
  refine ⟨g, L, S, rl, rs, b.bind.imp fun ps S1 g1 H1 x1 rs1 b1 vs rv => ?_⟩
  unfold starR at b1
  split at b1
  · rename_i hl
    exact ⟨by rw [rv.length, ← line_eq]; exact Nat.le_of_ble_eq_true hl, (Bk.okE b1).lst rs1 rv⟩
  · exact b1.elim
/-! ### d.get(k, x) -/
theorem RPs.valN {g : Gs} {H : Hp} {key : Key} : ∀ {ks : List Key} {vs : List V} {ps : List P}, RPs k.toKg g H vs ps → ((ks.zip ps).find? fun kv => decide (kv.1 = key)).map (·.2) = none → valV (ks.zip vs) key = none
  | [], _, _, _, _ => by simp [valV]
  | _ :: _, _, [], h, _ => by
    cases h
    simp [valV]
  | c :: ks, _, p :: ps, h, e => by
    cases h with
    | @cons v vs _ _ a b =>
      unfold valV
      rw [List.zip_cons_cons, List.find?_cons] at e ⊢
      by_cases hc : c = key
      · rw [show (decide ((c, p).1 = key)) = true from decide_eq_true hc] at e
        cases e
      · rw [show (decide ((c, p).1 = key)) = false from decide_eq_false hc] at e
        rw [show (decide ((c, v).1 = key)) = false from decide_eq_false hc]
        exact RPs.valN (ks := ks) b e
theorem m2_of {o e f : Expr} {apos cpos : Pos} {env : Env} {X : Cx} (hX : X.env = env) (hb : noCall o = true) (hl : (apos.endLine == cpos.line) = true) (he : noStar e = true) (hf : noStar f = true) : M2 X o "get" apos e f cpos := by
  subst hX
  refine ⟨base_of hb _ _ _, ?_, hl, ?_⟩
  · rw [star_of he, star_of hf]
    rfl
  · rw [star_of he, star_of hf]
    rfl
theorem se_dget {o e f : Expr} {o' e' f' : E} {apos cpos : Pos} (hu : X.A.units + 1 < cLine) (hb : noCall o = true) (hl : (apos.endLine == cpos.line) = true) (he : noStar e = true) (hf : noStar f = true) (ho : PE X o (rdE k W (s.e o'))) (h1 : PE X e (rdE k W (s.e e'))) (h2 : PE X f (rdE k W (s.e f'))) :
    PE X (.Call (.Attribute o "get" apos) [e, f] [] cpos) (rdE k W (evE cal fr s (.dget o' e' f'))) := by
  refine PE.imp (pe_dget2 hu ho h1 h2 (m2_of rfl hb hl he hf)) fun σ H Q h => ?_
  obtain ⟨g, L, S, rl, rs, b⟩ := h
  refine ⟨g, L, S, rl, rs, b.bind.imp fun x S1 g1 H1 x1 rs1 b1 vx rx => ?_⟩
  split at b1
  · rename_i hd
    cases x <;> first | (cases hd; done) | skip
    rename_i z
    cases z <;> first | (cases hd; done) | skip
    rename_i ks ps
    have rx : RP k.toKg g1 H1 vx (.dct ks ps) := rx
    have rx0 := rx
    cases rx with
    | @dct a od _ vs _ t l n r =>
      refine ⟨_, rfl, .inl ⟨_, .inr ⟨_, t⟩⟩, g1, L, S1, rl.mono x1, rs1, b1.bind.imp fun y S2 g2 H2 x2 rs2 b2 vy ry => ⟨g2, L, S2, rl.mono (x1.trans x2), rs2, b2.bind.imp fun w S3 g3 H3 x3 rs3 b3 vw rw0 => ?_⟩⟩
      have r3 := (RP.mono x2 rx0).mono x3
      have ry := ry.mono x3
      cases r3 with
      | @dct a od3 _ vs3 _ t3 l3 n3 r3 =>
        unfold dgetR at b3
        obtain ⟨py, rfl⟩ : ∃ p, y = .p p := by cases y <;> first | exact ⟨_, rfl⟩ | exact b3.elim
        obtain ⟨pw, rfl⟩ : ∃ p, w = .p p := by cases w <;> first | exact ⟨_, rfl⟩ | exact b3.elim
        obtain ⟨z, ez, wz⟩ := lift_want b3
        have key : ∀ key : Key, vy = kV key → z = (((ks.zip ps).find? fun kv => decide (kv.1 = key)).map (·.2)).getD pw → ∃ o, DGet H3 a vy o ∧ Q (o.getD vw) H3 := by
          intro key e1 e2
          subst e1
          cases q : ((ks.zip ps).find? fun kv => decide (kv.1 = key)).map (·.2) with
          | none =>
            rw [q] at e2
            subst e2
            exact ⟨none, .inl ⟨_, key, .inr ⟨_, t3⟩, rfl, (RPs.valN r3 q).symm⟩, wz.at rs3 rw0⟩
          | some z' =>
            rw [q] at e2
            subst e2
            obtain ⟨v, h1, h2⟩ := RPs.val r3 q
            exact ⟨some v, .inl ⟨_, key, .inr ⟨_, t3⟩, rfl, h1.symm⟩, wz.at rs3 h2⟩
        have k1 : ∀ i, py = .int i → vy = kV (.inl i) := fun i e => RR.int (k := k.toKg) (g := g3) (H := H3) (.inl (by rw [e] at ry; exact ry))
        have k2 : ∀ i, py = .str i → vy = kV (.inr i) := fun i e => RR.str (k := k.toKg) (g := g3) (H := H3) (.inl (by rw [e] at ry; exact ry))
        clear ry
        cases py <;> first | (cases ez; done) | skip
        · exact key (.inl _) (k1 _ rfl) (Option.some.inj ez).symm
        · exact key (.inr _) (k2 _ rfl) (Option.some.inj ez).symm
  · exact b1.elim
/-! ### texts in braces -/
def tFmtT (K : PySem.W.Frag) (te : TE) : TE := fun σ H Q => te σ H fun x H1 => ∃ a d, x = .ref a ∧ Dp K H1 x d ∧ SeqAt.shaped d = true ∧ d.showable = true ∧ d.shown.length ≤ sizeLine ∧ Q (.str d.shown) H1
theorem pe_fmtT {e : Expr} {te : TE} {pos : Pos} (hg : X.A.guards = some []) (hu : X.A.units + 66 < cLine) (he : PE X e te) : PE X (.FormattedValue e 114 none pos) (tFmtT X.K te) := by
  refine ⟨fun pins st σ H Q I h => ?_⟩
  refine wpAny_FormattedValue_repr (thn (he.run pins st σ H _ I h) fun v s1 ⟨x, H1, I1, r1, a, d, e1, hd, hs, hw, hz, q⟩ => ?_)
  subst e1
  obtain rfl : v = Value.ref a := r1
  obtain ⟨as, rd⟩ := Dp.reads I1 d _ _ hd rfl
  have hdp := SeqAt.depth_of_shaped hs
  refine pyReprObj_of_reads rd hw (PyData.noDict_hsm (PyData.hasDict_of_canLay d (SeqAt.canLay_of_shaped hs))) hg (by omega) (fun _ _ e => e) (fun h' t tk hk => ?_) hz
  have I2 := I1.kept (t' := tk) hk
  exact wpAny_formatField_str ⟨.str d.shown, H1, I2, ⟨_, rfl⟩, q⟩ ⟨.str d.shown, H1, I2.tok _, ⟨_, rfl⟩, q⟩ hz
theorem se_fst {x : Str} {e : Expr} {e' : E} {i : Nat} {p1 p2 pos : Pos} (hK : X.K = k.K) (hg : X.A.guards = some []) (hu : X.A.units + 66 < cLine) (he : PE X e (rdE k W (s.e e'))) :
    PE X (.JoinedStr [.Constant (.str x) i p1, .FormattedValue e 114 none p2] pos) (rdE k W (evE cal fr s (.fst x e' Str.empty))) := by
  refine PE.imp (pe_joined (.cons pe_str (.cons (pe_fmtT hg hu he) .nil))) fun σ H Q h => ?_
  have hx : Nat.ble x.length line = true := by
    obtain ⟨g, L, S, rl, rs, b⟩ := h
    have b : Bk k W σ g H (if Nat.ble x.length line = true then (s.e e' L S).bind fun d S1 => fstR x Str.empty d S1 else .bad) fun d _ g' H' => ∀ v, RD k g' H' v d → Q v H' := b
    cases q : Nat.ble x.length line with
    | true => rfl
    | false =>
      rw [q] at b
      exact b.elim
  have h : rdE k W (fun L S => (s.e e' L S).bind fun d S1 => fstR x Str.empty d S1) σ H Q := by
    obtain ⟨g, L, S, rl, rs, b⟩ := h
    have b : Bk k W σ g H (if Nat.ble x.length line = true then (s.e e' L S).bind fun d S1 => fstR x Str.empty d S1 else .bad) fun d _ g' H' => ∀ v, RD k g' H' v d → Q v H' := b
    rw [if_pos hx] at b
    exact ⟨g, L, S, rl, rs, b⟩
  have e0 : ∀ y : Str, Str.empty ++ y = y := fun ⟨y⟩ => congrArg Str.mk (Array.empty_append (xs := y))
  have e9 : ∀ y : Str, y ++ Str.empty = y := fun ⟨y⟩ => congrArg Str.mk (Array.append_empty (xs := y))
  have go : rdE k W (s.e e') σ H fun v H1 => ∃ a d, v = .ref a ∧ Dp X.K H1 v d ∧ SeqAt.shaped d = true ∧ d.showable = true ∧ d.shown.length ≤ sizeLine ∧ x.length ≤ sizeLine ∧ (x ++ d.shown).length ≤ sizeLine ∧ Q (.str (x ++ d.shown)) H1 := by
    refine rdE.imp (rd_one (F := fun d S => fstR x Str.empty d S) h) fun vx H1 q => ?_
    obtain ⟨g, y, S, rs, rx, bk⟩ := q
    obtain ⟨z, ez, w⟩ := lift_want bk
    obtain ⟨p, ep, e1⟩ := Option.bind_eq_some_iff.mp ez
    have rr := rx.der rs ep
    unfold fst1 at e1
    split at e1
    · split at e1
      · rename_i ps o n hn
        split at e1
        · rename_i hd
          rw [Bool.and_eq_true] at hd
          cases e1
          obtain ⟨q1, q2⟩ := txt_len hn hd.1
          have hl := Nat.le_of_ble_eq_true hd.2
          rw [line_eq] at hl
          have l1 := strLen_append x (PyData.shown (toP (.tup ps)))
          obtain ⟨a, vs, ea, _⟩ := RR.tup rr
          rw [e9] at w
          exact ⟨a, _, ea, by rw [hK]; exact RR.dp rr hd.1, dat_shaped hd.1, q2, by omega, by omega, by rw [l1]; omega, w.str rs⟩
        · cases e1
      · cases e1
    · cases e1
  obtain ⟨g, L, S, rl, rs, b⟩ := go
  refine ⟨x, rfl, ?_, ?_⟩
  · rw [e0, ← line_eq]
    exact Nat.le_of_ble_eq_true hx
  · exact rdE.imp ⟨g, L, S, rl, rs, b⟩ fun v H1 ⟨a, d, h1, h2, h3, h4, h5, h6, h7, h8⟩ => ⟨a, d, h1, h2, h3, h4, h5, _, rfl, by rw [e0]; exact h7, by rw [e0]; exact h8⟩
/-! ### list.count, list.index -/
theorem cnt_eq {z : Str} : ∀ {ys : List Str} {its : List Value}, Vals (ys.map V.str) its → its.countP (eqU (V.str z)) = (ys.filter fun y => decide (y = z)).length
  | [], _, h => by
    cases h
    rfl
  | y :: ys, _, h => by
    cases h with
    | cons r t =>
      have ih := cnt_eq (z := z) t
      rw [List.countP_cons, ih, eqU_of r rfl, List.filter_cons]
      show _ + (if (y == z) = true then 1 else 0) = _
      by_cases e : y = z
      · subst e
        simp
      · rw [if_neg (by simpa using e), if_neg (by simpa using e)]
        rfl
theorem mt_cntS : MtR X "list.count" (fun x xs H Q => ∃ (p : Addr) (ys : List Str) (z : Str), x = .ref p ∧ xs = [.str z] ∧ SqL X.K H p (ys.map V.str) ∧ Q (.int ((ys.filter fun y => decide (y = z)).length : Nat)) H) := by
  intro pins st σ H x xs v us Q I rx rxs h
  obtain ⟨p, ys, z, rfl, rfl, hs, q⟩ := h
  cases rx
  obtain ⟨u, rfl, ru⟩ := rxs.one
  obtain ⟨its, rv, ⟨⟨cls, dd, data, sl⟩, n, ho, hc, hdn, hd⟩, hlen⟩ := I.list hs
  simp only at hc hd
  subst hc hd
  have fy : (ys.map V.str).all flatV = true := by
    rw [List.all_map]
    exact List.all_eq_true.mpr fun _ _ => rfl
  refine call_meets PySem.F.slot_list_count ⟨_, ho, rfl⟩ PySem.F.entry_list_count (PySem.F.args_list_count_2 _ _)
    (SeqAt.list_countAt p its.toArray n dd sl u (eqU (V.str z))) ⟨ho, fun y hy => mem_eqAt ru rfl rv fy y (by simpa using hy), ?_⟩
  have ec : its.toArray.toList.countP (eqU (V.str z)) = (ys.filter fun y => decide (y = z)).length := cnt_eq rv
  refine ⟨.int ((ys.filter fun y => decide (y = z)).length : Nat), H, I.tok _, ⟨st.toks, ?_⟩, q⟩
  show Value.int ((its.toArray.toList.countP (eqU (V.str z)) : Nat) : Int) st.toks = Value.int (((ys.filter fun y => decide (y = z)).length : Nat) : Int) st.toks
  rw [ec]
/-- o.m(e) of a list of texts and a text -/
theorem strs_two {f : P → P → Option P} {a b : P} {z : P} {g : Gs} {H : Hp} {va vb : V} (ra : RP k.toKg g H va a) (rb : RP k.toKg g H vb b) {xs : List P} {x : Str} (ea : a = .lst xs) (eb : b = .str x) {ys : List Str} (hy : strsP xs = some ys) : ∃ p, va = .ref p ∧ vb = .str x ∧ H p = some (.lst (ys.map V.str)) := by
  subst ea eb
  cases ra with
  | lst t n r =>
    have := strsP_spec hy r
    subst this
    cases rb
    exact ⟨_, rfl, rfl, t⟩
theorem lst2_in {F : P → P → Option P} {r : V → List V → Hp → VK → Prop} {o' e' : E} {σ : Ls} {H : Hp} {Q : VK}
    (hr : ∀ {g H S va vb xs b z}, F (.lst xs) b = some z → RS k g H S → RP k.toKg g H va (.lst xs) → RP k.toKg g H vb b → Want k g H S (.p z) Q → r va [vb] H Q)
    (h : rdE k W (fun L S => (s.e o' L S).bind fun x S1 => if isLst x then (s.e e' L S1).bind fun y S2 => two1 F x y S2 else .bad) σ H Q) : tBM X.K "list" r (rdE k W (s.e o')) (tCons (rdE k W (s.e e')) tNil) σ H Q := by
  obtain ⟨g, L, S, rl, rs, b⟩ := h
  refine ⟨g, L, S, rl, rs, b.bind.imp fun x S1 g1 H1 x1 rs1 b1 vx rx => ?_⟩
  split at b1
  · rename_i hd
    cases x <;> first | (cases hd; done) | skip
    rename_i z
    cases z <;> first | (cases hd; done) | skip
    rename_i xs
    have rx0 : RP k.toKg g1 H1 vx (.lst xs) := rx
    have rx : RP k.toKg g1 H1 vx (.lst xs) := rx
    cases rx with
    | @lst a vs _ t n rv =>
      refine ⟨.inl ⟨rfl, vs, .inl (.inl t)⟩, g1, L, S1, rl.mono x1, rs1, b1.bind.imp fun y S2 g2 H2 x2 rs2 b2 vy ry => ?_⟩
      unfold two1 at b2
      obtain ⟨py, rfl⟩ : ∃ p, y = .p p := by cases y <;> first | exact ⟨_, rfl⟩ | exact b2.elim
      obtain ⟨z, ez, w⟩ := lift_want b2
      exact hr ez rs2 (RP.mono x2 rx0) ry w
  · exact b1.elim
theorem se_cnt {o e : Expr} {o' e' : E} {apos cpos : Pos} (hK : X.K = k.K) (hb : noCall o = true) (hl : (apos.endLine == cpos.line) = true) (he : noStar e = true) (ho : PE X o (rdE k W (s.e o'))) (h1 : PE X e (rdE k W (s.e e'))) :
    PE X (.Call (.Attribute o "count" apos) [e] [] cpos) (rdE k W (evE cal fr s (.cnt o' e'))) := by
  refine PE.imp (pe_bm F.plainAttrs_list F.slot_list_count F.type_list_count mt_cntS ho (pa_cons h1 pa_nil (star_of he [] X.env)) (base_of hb _ _ _) (few_of he _ _) hl (star_of he _ _) rfl) fun σ H Q h => ?_
  refine lst2_in (F := cnt1) (fun {g H S va vb xs b z} ez rs ra rb w => ?_) h
  unfold cnt1 at ez
  split at ez
  · rename_i x eq
    cases eq
    obtain ⟨ys, hy, rfl⟩ := Option.map_eq_some_iff.mp ez
    obtain ⟨p, rfl, rfl, hp⟩ := strs_two (f := cnt1) (z := .non) ra rb rfl rfl hy
    exact ⟨p, ys, _, rfl, rfl, .inl (.inl hp), w.int rs⟩
  · cases ez
theorem se_idx {o e : Expr} {o' e' : E} {apos cpos : Pos} (hK : X.K = k.K) (hb : noCall o = true) (hl : (apos.endLine == cpos.line) = true) (he : noStar e = true) (ho : PE X o (rdE k W (s.e o'))) (h1 : PE X e (rdE k W (s.e e'))) :
    PE X (.Call (.Attribute o "index" apos) [e] [] cpos) (rdE k W (evE cal fr s (.idx o' e'))) := by
  refine PE.imp (pe_bm F.plainAttrs_list F.slot_list_index F.type_list_index mt_index ho (pa_cons h1 pa_nil (star_of he [] X.env)) (base_of hb _ _ _) (few_of he _ _) hl (star_of he _ _) rfl) fun σ H Q h => ?_
  refine lst2_in (F := idx1) (fun {g H S va vb xs b z} ez rs ra rb w => ?_) h
  unfold idx1 at ez
  split at ez
  · rename_i x eq
    cases eq
    obtain ⟨ys, hy, ez⟩ := Option.bind_eq_some_iff.mp ez
    obtain ⟨j, hj, rfl⟩ := Option.map_eq_some_iff.mp ez
    obtain ⟨p, rfl, rfl, hp⟩ := strs_two (f := idx1) (z := .non) ra rb rfl rfl hy
    obtain ⟨hlt, h3, h4⟩ := List.findIdx?_eq_some_iff_getElem.mp hj
    have h3 := of_decide_eq_true h3
    refine ⟨p, ys.map V.str, .str x, j, .str x, rfl, rfl, .inl (.inl hp), rfl, ?_, ?_, ?_, ?_, w.int rs⟩
    · rw [List.all_map]
      exact List.all_eq_true.mpr fun _ _ => rfl
    · rw [List.getElem?_map, List.getElem?_eq_getElem hlt, h3]
      rfl
    · show (x == x) = true
      exact beq_self_eq_true x
    · intro m z' hm hz
      rw [List.getElem?_map] at hz
      obtain ⟨y', hy', rfl⟩ := Option.map_eq_some_iff.mp hz
      have hl2 := (List.getElem?_eq_some_iff.mp hy').1
      have e1 := (List.getElem?_eq_some_iff.mp hy').2
      have h5 := h4 m hm
      have h5 : ¬ ys[m] = x := by simpa using h5
      show (y' == x) = false
      rw [← e1]
      exact beq_eq_false_iff_ne.mpr h5
  · cases ez
/-! ### walks of dicts -/
theorem Wk.vals {g : Gs} {H : Hp} {a : Addr} {o : Obj} {ks : List Key} {vs : List V} {ps : List P} (t : H a = some (.frz o (.dK (ks.zip vs)))) (n : ¬ g.M a) (l : ks.length = ps.length) (r : RPs k.toKg g H vs ps) : Wk k g H (Itd a o (ks.zip vs)) ps := fun g' H' x => by
  have t' := x.kp _ _ t trivial n
  have r' := r.gr x
  have lz : (ks.zip vs).length = ps.length := by rw [List.length_zip, r'.length]; omega
  refine ⟨fun i p e => ?_, fun i hi => ⟨t', by rw [lz]; exact hi⟩⟩
  obtain ⟨ky, v, h1, _, h3⟩ := zip_get l r' e
  refine ⟨⟨t', (List.getElem?_eq_some_iff.mp h1).1⟩, fun z H'' S rs y => ?_⟩
  obtain ⟨rfl, ky', y⟩ := y
  rw [h1] at y
  cases y
  exact ⟨.refl, rs, h3⟩
theorem Wk.items {g : Gs} {H : Hp} {a : Addr} {o : Obj} {ks : List Key} {vs : List V} {ps : List P} (t : H a = some (.frz o (.dK (ks.zip vs)))) (n : ¬ g.M a) (l : ks.length = ps.length) (r : RPs k.toKg g H vs ps) : Wk k g H (Iti a o (ks.zip vs)) (zips (ks.map keyD) ps) := fun g' H' x => by
  have t' := x.kp _ _ t trivial n
  have r' := r.gr x
  have lz : (ks.zip vs).length = ps.length := by rw [List.length_zip, r'.length]; omega
  refine ⟨fun i p e => ?_, fun i hi => ⟨t', ?_⟩⟩
  · obtain ⟨q, p', h1, h2, rfl⟩ := zips_get _ _ _ _ e
    rw [List.getElem?_map] at h1
    obtain ⟨ky, h4, rfl⟩ := Option.map_eq_some_iff.mp h1
    obtain ⟨ky', v, h1, h2', h3⟩ := zip_get l r' h2
    rw [h4] at h2'
    cases h2'
    refine ⟨⟨t', (List.getElem?_eq_some_iff.mp h1).1⟩, fun z H'' S rs y => ?_⟩
    obtain ⟨T, ky', v', y, rfl, hT, rfl⟩ := y
    rw [h1] at y
    cases y
    exact ⟨Ext.laid rs hT _, rs.laid hT _, RP.newTup rs hT (two_rps (keyD_rp ky) h3)⟩
  · rw [lz]
    rcases zips_len _ _ _ hi with z | z
    · rw [List.length_map] at z; omega
    · exact z
theorem dct1 {g : Gs} {H : Hp} {S1 : Sto} {σ : Ls} {Rr : It → Hp → Prop} {kk : Sk} {d : D} (f : List P → Option (List P)) (hf : ∀ qs, walk kk qs = f qs) (hd : ∀ qs ps, f qs = some ps → ∃ ks ps, qs = [.dct ks ps]) (b1 : Bk k W σ g H (walkR kk [d] S1) fun ps _ g' H' => ∀ J, Wk k g' H' J ps → Rr J H') (rs : RS k g H S1) : ∃ ks ps qs, d = .p (.dct ks ps) ∧ f [.dct ks ps] = some qs ∧ ∀ J, Wk k g H J qs → Rr J H := by
  unfold walkR at b1
  cases d with
  | p x =>
    have b2 : Bk k W σ g H (lift S1 (walk kk [x])) fun ps _ g' H' => ∀ J, Wk k g' H' J ps → Rr J H' := b1
    rw [hf] at b2
    cases e : f [x] with
    | none => rw [e] at b2; exact b2.elim
    | some qs =>
      rw [e] at b2
      obtain ⟨ks, ps, e2⟩ := hd _ _ e
      cases e2
      exact ⟨ks, ps, qs, rfl, e, b2.here rs⟩
  | _ => exact b1.elim
theorem si_vals {tg e : Expr} {e' : E} {apos cpos : Pos} (hb : noCall e = true) (hl : (apos.endLine == cpos.line) = true) (he : PE X e (rdE k W (s.e e'))) : PI X tg (.Call (.Attribute e "values" apos) [] [] cpos) (rdI k W (walkE s .vals [e'])) := by
  refine PI.imp (pi_values he (base_of hb _ _ _) hl) fun σ H Rr h => ?_
  obtain ⟨g, L, S, rl, rs, b⟩ := h
  refine ⟨g, L, S, rl, rs, b.bind.bind.imp fun d S1 g1 H1 e1 rs1 b1 v rv => ?_⟩
  obtain ⟨ks, ps, qs, rfl, e, w⟩ := dct1 (kk := .vals) wVals (fun _ => rfl) (fun qs ps h => by
    unfold wVals at h
    split at h
    · exact ⟨_, _, rfl⟩
    · cases h) (b1.here rs1) rs1
  cases e
  cases (show RP k.toKg g1 H1 v (.dct ks ps) from rv) with
  | dct t l n r => exact ⟨_, _, _, rfl, t, w _ (Wk.vals t n l r)⟩
theorem si_items {elts : List Expr} {kk : Nat} {tpos : Pos} {e : Expr} {e' : E} {apos cpos : Pos} (hb : noCall e = true) (hl : (apos.endLine == cpos.line) = true) (he : PE X e (rdE k W (s.e e'))) : PI X (.Tuple elts kk tpos) (.Call (.Attribute e "items" apos) [] [] cpos) (rdI k W (walkE s .items [e'])) := by
  refine PI.imp (pi_items he (base_of hb _ _ _) hl) fun σ H Rr h => ?_
  obtain ⟨g, L, S, rl, rs, b⟩ := h
  refine ⟨g, L, S, rl, rs, b.bind.bind.imp fun d S1 g1 H1 e1 rs1 b1 v rv => ?_⟩
  obtain ⟨ks, ps, qs, rfl, e, w⟩ := dct1 (kk := .items) wItems (fun _ => rfl) (fun qs ps h => by
    unfold wItems at h
    split at h
    · exact ⟨_, _, rfl⟩
    · cases h) (b1.here rs1) rs1
  cases e
  cases (show RP k.toKg g1 H1 v (.dct ks ps) from rv) with
  | dct t l n r => exact ⟨_, _, _, rfl, t, w _ (Wk.items t n l r)⟩
end
end Mn
/-! Mn13: from the text to the intermediate form: expressions. -/
namespace Mn
open L2 PyProof.Rows PySem.Spec PySem
/-- what the names of a def stand for -/
structure Cf where
  N : List Str
  own : Pos → Bool
  con : Str → Option P
  fn : Str → Option (Nat × Nat × List P)
  free : Str → Bool
  /-- in a comprehension's block -/
  blk : Bool
  /-- the code object's table is known -/
  tab : Bool
  qual : Str
  lam : Pos → Option (Nat × List Nat)
  lt : Nat → Option LamT
  exn : Str → Option Nat
  /-- own classes -/
  cn : Str → Option Nat
  /-- in a block whose beginning is known -/
  kb : Bool
  /-- to be told by itself -/
  isoB : E → Bool
def Cf.inB (c : Cf) : Cf := { c with blk := true, kb := false }
def Cf.inK (c : Cf) : Cf := { c with blk := true, kb := true }
def ixOf (x : Str) : List Str → Option Nat
  | [] => none
  | y :: r => if y == x then some 0 else (ixOf x r).map (· + 1)
theorem ixOf_ok {x : Str} : ∀ {N : List Str} {i : Nat}, ixOf x N = some i → N[i]? = some x
  | [], _, h => by simp [ixOf] at h
  | y :: r, i, h => by
    unfold ixOf at h
    split at h
    · rename_i e
      cases h
      simpa using e
    · obtain ⟨j, h1, rfl⟩ := Option.map_eq_some_iff.mp h
      simpa using ixOf_ok h1
def okN (x : Str) : Bool := !(x == ("__debug__" : Str)) && !(x == ("__classdict__" : Str))
def isVis (sc : Scope) (x : Str) : Bool := match sc.names.lookup x with
  | some .local => true
  | some .cell => true
  | some .free => true
  | _ => false
def isGl (sc : Scope) (x : Str) : Bool := match sc.names.lookup x with
  | some .globalImplicit => true
  | _ => false
def isLoc (sc : Scope) (x : Str) : Bool := match sc.names.lookup x with
  | some .local => true
  | _ => false
def isTg (sc : Scope) (fb : Str → Bool) (x : Str) : Bool := match sc.names.lookup x with
  | some .local => true
  | some .cell => fb x
  | _ => false
def tyOf (x : Str) : Option Ty := [Ty.int, .bool, .str, .tuple, .list, .dict].find? fun T => (nmT T : Str) == x
theorem tyOf_ok {x : Str} {T : Ty} (h : tyOf x = some T) : x = (nmT T : Str) := by
  have := List.find?_some h
  exact (eq_of_beq this).symm
def biOf (x : Str) : Option Bi := [Bi.len, .abs, .int, .str, .repr, .all, .any, .tuple, .list, .sorted, .max, .min, .sum].find? fun b => nmB b == x
theorem biOf_ok {x : Str} {b : Bi} (h : biOf x = some b) : x = nmB b := by
  have := List.find?_some h
  exact (eq_of_beq this).symm
/-- may stand as a test -/
def tst1 (f : Expr → Bool) : Expr → Bool
  | .UnaryOp .Not a _ => f a
  | .BoolOp _ vs _ => vs.all f
  | .IfExp .. => false
  | _ => true
def tst : Nat → Expr → Bool
  | 0, _ => false
  | m + 1, e => tst1 (tst m) e
def trL (f : Expr → Option E) : List Expr → Option (List E)
  | [] => some []
  | e :: es => match f e, trL f es with
    | some a, some b => some (a :: b)
    | _, _ => none
def trO (f : Expr → Option E) : Option Expr → Option (Option E)
  | none => some none
  | some e => (f e).map some
def op1 (f : E → E) (a : Option E) : Option E := a.map f
def op2 (f : E → E → E) (a b : Option E) : Option E := match a, b with
  | some a, some b => some (f a b)
  | _, _ => none
def op3 (f : E → E → E → E) (a b c : Option E) : Option E := match a, b, c with
  | some a, some b, some c => some (f a b c)
  | _, _, _ => none
def trName (c : Cf) (sc : Scope) (x : Str) : Option E := if okN x then
    (if isVis sc x then (ixOf x c.N).map .v else if isGl sc x then (match c.con x with
      | some p => some (.k p)
      | none => (c.fn x).map fun q => .k (.fn q.1)) else none)
  else none
def trConst : Const → Option E
  | .none => some (.k .non)
  | .bool b => some (.k (.bl b))
  | .int i => some (.k (.int i))
  | .str x => some (.k (.str x))
  | _ => none
def trIsi (c : Cf) (sc : Scope) (f : Expr → Option E) : List Expr → Option E
  | [e, .Name t _] => if noStar e && isGl sc t && c.free t then (match tyOf t with
      | some T => (f e).map (.isi T)
      | none => none) else if noStar e && isGl sc t && okN t then (match c.cn t with
      | some ci => (f e).map (.isc ci)
      | none => none) else none
  | _ => none
def trBi (f : Expr → Option E) (x : Str) (args : List Expr) : Option E := match biOf x, args with
  | some b, e :: es => if (e :: es).all noStar then (trL f (e :: es)).map (.bi b) else none
  | _, _ => none
def isiN : Str := "isinstance"
def trFn (blk kb : Bool) (f : Expr → Option E) (i np : Nat) (dps : List P) (args : List Expr) : Option E :=
  if args.all noStar && Nat.ble args.length np && Nat.ble (np - args.length) dps.length then (trL f args).map fun es => (if blk then (if kb then E.callK else E.callB) else E.call) i (es ++ (dps.drop (dps.length - (np - args.length))).map .k) else none
def trMk (c : Cf) (f : Expr → Option E) (x : Str) (args : List Expr) : Option E := if !c.blk && args.all noStar then (match c.cn x with
  | some ci => (trL f args).map (.mk ci)
  | none => none) else none
def getN : Str := "get"
def countN : Str := "count"
def indexN : Str := "index"
def valuesN : Str := "values"
def itemsN : Str := "items"
def wordN : Str := "_law_word"
/-- o.m(..) -/
def trMeth (c : Cf) (f : Expr → Option E) (o : Expr) (m : Str) (args : List Expr) (ap cp : Pos) : Option E := if noCall o && args.all noStar && Nat.blt args.length 30 && (ap.endLine == cp.line) then (match args with
  | [a, b] => if m == getN then (match f o, f a, f b with
      | some o', some a', some b' => some (.dget o' a' b')
      | _, _, _ => none) else trM0 c f o m [a, b]
  | [a] => if m == countN then (match f o, f a with
      | some o', some a' => some (.cnt o' a')
      | _, _ => none) else if m == indexN then (match f o, f a with
      | some o', some a' => some (.idx o' a')
      | _, _ => none) else trM0 c f o m [a]
  | args => trM0 c f o m args) else none
where trM0 (c : Cf) (f : Expr → Option E) (o : Expr) (m : Str) (args : List Expr) : Option E := if c.blk then none else (match f o, trL f args with
  | some o', some es => some (.meth m o' es)
  | _, _ => none)
def trCall (c : Cf) (sc : Scope) (f : Expr → Option E) (x : Str) (args : List Expr) : Option E :=
  if okN x && isGl sc x then (match c.fn x with
    | some (i, np, dps) => trFn c.blk c.kb f i np dps args
    | none => if (c.cn x).isSome then trMk c f x args else if c.free x then (if x == isiN then trIsi c sc f args else trBi f x args) else none)
  else if okN x && isVis sc x && !c.blk && args.all noStar then (match ixOf x c.N, trL f args with
    | some i, some es => some (.calL i es)
    | _, _ => none) else none
/-- a lambda of the text, by its place -/
def trLam (c : Cf) (sc : Scope) (params : Arguments) (body : Expr) (scope : Scope) (pos : Pos) : Option E :=
  if !c.blk && c.tab then (match c.lam pos with
    | some (f, sl) => (match c.lt f with
      | some t => if eqArgs params t.params && eqE 40 body t.body && decide (scope = t.scope) && decide (t.qual = c.qual ++ "<lambda>") && decide (sl.map (fun j => c.N[j]?) = t.fr.map some) && NdefX.ndefB sc t.scope t.fr &&
          t.scope.names.all (fun y => !decide (y.2 = .free) || decide (y.1 ∈ t.fr)) then some (.lam f sl) else none
      | none => none)
    | none => none) else none
def trDict (f : Expr → Option E) (keys : List (Option Expr)) (vals : List Expr) : Option E := if Nat.ble keys.length 15 then (dctOf f keys vals).map fun q => .dct q.1 q.2 else none
def isRev : Expr → Bool
  | .Slice none none (some (.UnaryOp .USub (.Constant (.int 1) _ _) _)) _ => true
  | _ => false
def trSub (f : Expr → Option E) (a : Expr) (i : Expr) : Option E := match i with
  | .Slice lo hi none _ => (match f a, trO f lo, trO f hi with
    | some a, some lo, some hi => some (.sl a lo hi)
    | _, _, _ => none)
  | .Slice none none (some (.UnaryOp .USub (.Constant (.int 1) _ _) _)) _ => (f a).map .rev
  | .Slice .. => none
  | i => op2 .ix (f a) (f i)
mutual
def trG (c : Cf) (sc : Scope) (fb : Str → Bool) : Nat → Expr → Option Tg
  | _, .Name x _ => if isTg sc fb x then (ixOf x c.N).map .n else none
  | m + 1, .Tuple es _ _ => if es.all noStar then (trGs c sc fb m es).map .t else none
  | _, _ => none
def trGs (c : Cf) (sc : Scope) (fb : Str → Bool) : Nat → List Expr → Option (List Tg)
  | _, [] => some []
  | m, e :: es => match trG c sc fb m e, trGs c sc fb m es with
    | some a, some b => some (a :: b)
    | _, _ => none
end
def noSet : Expr → Bool
  | .Set .. => false
  | _ => true
def isTup : Expr → Bool
  | .Tuple .. => true
  | _ => false
def rangeN : Str := "range"
def enumN : Str := "enumerate"
def zipN : Str := "zip"
/-- a call of one of the walkers -/
def trW (c : Cf) (sc : Scope) (tg : Expr) : Expr → Option (Sk × List Expr)
  | .Call (.Name x _) [a] [] _ => if noStar a && isGl sc x && c.free x then (if x == rangeN then some (.rng1, [a]) else if x == enumN && isTup tg then some (.enum, [a]) else none) else none
  | .Call (.Name x _) [a, b] [] _ => if noStar a && noStar b && isGl sc x && c.free x then (if x == rangeN then some (.rng2, [a, b]) else if x == zipN && isTup tg then some (.zip, [a, b]) else none) else none
  | .Call (.Attribute e m ap) [] [] cp => if noCall e && (ap.endLine == cp.line) then (if m == valuesN then some (.vals, [e]) else if m == itemsN && isTup tg then some (.items, [e]) else none) else none
  | _ => none
def trI (c : Cf) (sc : Scope) (f : Expr → Option E) (tg it : Expr) : Option (Sk × List E) := match trW c sc tg it with
  | some (s, es) => (trL f es).map fun es' => (s, es')
  | none => if noSet it then (f it).map fun e => (.it, [e]) else none
/-- starred displays -/
def stB : List Expr → List Bool
  | [] => []
  | .Starred _ _ :: es => true :: stB es
  | _ :: es => false :: stB es
def unSt : Expr → Expr
  | .Starred e _ => e
  | e => e
def trSt (f : Expr → Option E) (tup : Bool) (es : List Expr) : Option E := (trL f (es.map unSt)).map (.star tup (stB es))
def isLam : Expr → Bool
  | .Lambda .. => true
  | _ => false
def lamF : List Expr → Bool
  | e :: _ => isLam e
  | [] => false
/-- [word(f) for f in ..] -/
def isWd : Expr → Expr → Bool
  | .Call (.Name x _) [.Name _ _] [] _, .Name _ _ => x == wordN
  | _, _ => false
def trFst (f : Expr → Option E) : List Expr → Option E
  | [.Constant (.str x) _ _, .FormattedValue e 114 none _] => (f e).map fun e' => .fst x e' Str.empty
  | _ => none
def ownN (N : List Str) : List (Str × NameKind) → List (Str × Nat)
  | [] => []
  | (x, .local) :: r => (match ixOf x N with
    | some i => (x, i) :: ownN N r
    | none => ownN N r)
  | (x, .cell) :: r => (match ixOf x N with
    | some i => (x, i) :: ownN N r
    | none => ownN N r)
  | _ :: r => ownN N r
def isAdd : Operator → Bool
  | .Add => true
  | _ => false
def trE : Cf → Nat → Scope → Expr → Option E
  | _, 0, _, _ => none
  | c, m + 1, sc, e => match e with
    | .Lambda params body scope p => trLam c sc params body scope p
    | .Dict keys vals _ => trDict (trE c m sc) keys vals
    | .Attribute o f _ => if noCall o then (trE c m sc o).map fun o' => .fld o' f else none
    | .JoinedStr es _ => trFst (trE c m sc) es
    | .Name x _ => trName c sc x
    | .Constant v _ _ => trConst v
    | .BinOp a op b p => (match opB op with
      | some o => if isAdd op && c.own p then op2 .cat (trE c m sc a) (trE c m sc b) else op2 (.bin o) (trE c m sc a) (trE c m sc b)
      | none => none)
    | .UnaryOp .USub a _ => op1 .neg (trE c m sc a)
    | .UnaryOp .Not a _ => op1 .not (trE c m sc a)
    | .BoolOp _ [a] _ => trE c m sc a
    | .BoolOp .And (a :: b :: r) p => op2 .and (trE c m sc a) (trE c m sc (.BoolOp .And (b :: r) p))
    | .BoolOp .Or (a :: b :: r) p => op2 .or (trE c m sc a) (trE c m sc (.BoolOp .Or (b :: r) p))
    | .Compare a [o] [b] _ => if behindInMarks o b then none else op2 (.cmp (opC o)) (trE c m sc a) (trE c m sc b)
    | .Compare a [o, o'] [b, d] _ => if behindInMarks o' d then none else op3 (.chain (opC o) (opC o')) (trE c m sc a) (trE c m sc b) (trE c m sc d)
    | .IfExp t a b _ => if tst 40 t then op3 .ite (trE c m sc t) (trE c m sc a) (trE c m sc b) else none
    | .Tuple es _ _ => if es.all noStar then (trL (trE c m sc) es).map .tup else trSt (trE c m sc) true es
    | .List es p => if es.all noStar then (if lamF es && !c.own p then (trL (trE c m sc) es).map .lms else (trL (trE c m sc) es).map (.lst (c.own p))) else if c.own p then none else trSt (trE c m sc) false es
    | .Call (.Name x _) args [] _ => trCall c sc (trE c m sc) x args
    | .Call (.Attribute o x ap) args [] cp => trMeth c (trE c m sc) o x args ap cp
    | .Subscript a i _ => trSub (trE c m sc) a i
    | .ListComp el [⟨tg, it, ifs, 0⟩] scope p =>
      let ow := ownN c.N scope.names
      let sc' := relS scope sc
      if blkC c.N sc scope ow then
        if isWd el it && !c.blk then (match trG c.inK sc' (fun x => match scope.names.lookup x with | some .cell => true | _ => false) m tg, trE c m sc it, trE c.inK m sc' el, ifs with
        | some tg', some it', some el', [] => if (slots tg').all fun i => decide (i ∈ ow.map (·.2)) then some (.lcR (c.own p) (ow.map (·.2)) tg' it' el') else none
        | _, _, _, _ => none)
        else (match trG c.inB sc' (fun x => match scope.names.lookup x with | some .cell => true | _ => false) m tg, trI c sc (trE c m sc) tg it, trE c.inB m sc' el with
        | some tg', some (kk, es), some el' => if (slots tg').all fun i => decide (i ∈ ow.map (·.2)) then
            (match ifs with
            | [] => some (.lc (c.own p) (ow.map (·.2)) tg' kk es none el')
            | [t] => if tst 40 t then (trE c.inB m sc' t).map fun t' => .lc (c.own p) (ow.map (·.2)) tg' kk es (some t') el' else none
            | _ => none) else none
        | _, _, _ => none)
      else none
    | _ => none
/-! what an expression looks at (not trusted) -/
mutual
def rdsE : E → List Nat
  | .v i => [i]
  | .bin _ a b => rdsE a ++ rdsE b
  | .neg a => rdsE a
  | .not a => rdsE a
  | .and a b => rdsE a ++ rdsE b
  | .or a b => rdsE a ++ rdsE b
  | .cmp _ a b => rdsE a ++ rdsE b
  | .chain _ _ a b c => rdsE a ++ rdsE b ++ rdsE c
  | .ite a b c => rdsE a ++ rdsE b ++ rdsE c
  | .tup es => rdsL es
  | .lst _ es => rdsL es
  | .call _ es => rdsL es
  | .callB _ es => rdsL es
  | .callK _ es => rdsL es
  | .bi _ es => rdsL es
  | .isi _ e => rdsE e
  | .ix a b => rdsE a ++ rdsE b
  | .sl a lo hi => rdsE a ++ rdsO lo ++ rdsO hi
  | .rev a => rdsE a
  | .lc _ _ _ _ es co el => rdsL es ++ rdsO co ++ rdsE el
  | .lam _ sl => sl
  | .calL i es => i :: rdsL es
  | .lcR _ _ _ e el => rdsE e ++ rdsE el
  | .dct _ es => rdsL es
  | .cat a b => rdsE a ++ rdsE b
  | .fld e _ => rdsE e
  | .isc _ e => rdsE e
  | .meth _ e es => rdsE e ++ rdsL es
  | .iso ms _ => ms
  | .lms es => rdsL es
  | .mk _ es => rdsL es
  | .star _ _ es => rdsL es
  | .dget a b c => rdsE a ++ rdsE b ++ rdsE c
  | .cnt a b => rdsE a ++ rdsE b
  | .idx a b => rdsE a ++ rdsE b
  | .fst _ e _ => rdsE e
  | _ => []
def rdsL : List E → List Nat
  | [] => []
  | e :: es => rdsE e ++ rdsL es
def rdsO : Option E → List Nat
  | none => []
  | some e => rdsE e
end
def nub : List Nat → List Nat
  | [] => []
  | i :: is => if is.any (Nat.beq i) then nub is else i :: nub is
/-- what an expression looks at beside itself: the lambdas that a name holds are not seen -/
def wrapE (c : Cf) (e : E) : E := if c.isoB e then .iso (nub (rdsE e)) e else e
/-- an expression of a statement -/
def trT (c : Cf) (sc : Scope) (f : Expr → Option E) (e : Expr) : Option E := match f e with
  | some e' => if c.isoB e' then some (.iso (nub (rdsE e')) e') else (match e with
    | .Call (.Name x _) args [] _ => trCall c sc (fun a => (f a).map (wrapE c)) x args
    | _ => some e')
  | none => none
end Mn
/-! Mn14: the translation of expressions is right. -/
namespace Mn
open L2 PyProof.Rows PySem.Spec PySem
/-- a context in which the text is read -/
structure XC (k : Ka) (G : Prog) (cal : Nat → List D → Sto → R D) (c : Cf) (sc : Scope) (fb : Str → Bool) (j : Nat) (W : WX) (X : Cx) : Prop where
  K : X.K = k.K
  N : X.N = c.N
  nd : X.N.Nodup
  sc : X.env.scope = sc
  fb : ∀ x, fb x = true → X.fn x = true
  calm : X.calm = true
  rx : RoomX j X.A
  gu : X.A.guards = some []
  tk : Takes X W
  con : ∀ x p, c.con x = some p → ∃ u v, X.mg x = some u ∧ RelV v u ∧ ∀ g H, RP k.toKg g H v p
  fn : ∀ x i np dps, c.fn x = some (i, np, dps) → ∃ f fd ps, X.mg x = some (.ref f) ∧ PySem.W.keepIn X.K (.ref f) = true ∧ GOk X.prog X.w X.K X.mg X.base j f fd ps (spD k.toKg j np (cal i)) ∧ k.fa i = some f ∧
    ∀ m, m ≤ dps.length → ∃ dvs ds, KPs k.toKg dvs (dps.drop m) ∧ Vals dvs ds ∧ Binds X.K fd ps ds
  free : ∀ x, c.free x = true → X.mg x = none
  jf : k.fr = j
  lo : ∀ m, m < k.fr → k.fc m = none
  kf : c.blk = false → KF X k
  tb : c.blk = false → c.tab = true → TbF X k
  q : c.blk = false → X.env.qual = c.qual
  fo : FaOk X k.toKg j cal
  lto : LtOk X k.toKg j cal
  ltc : ∀ f t, c.lt f = some t → k.lt f = some t
  cf : ClF X k.toKg j cal G.mt G.pr G.mkt
  cn : ∀ x ci, c.cn x = some ci → ∃ C i, X.mg x = some (.ref C) ∧ k.cl ci = some C ∧ G.mkt ci = some i
  kbf : c.kb = true → KB X k
theorem ClF.of {X Y : Cx} {kk : Kg} {j : Nat} {cal : Nat → List D → Sto → R D} {mt : Nat → Str → Option Nat} {pr : Nat → Str → Option (Sum Str Nat)} {mk : Nat → Option Nat} (F : ClF X kk j cal mt pr mk) (h1 : Y.K = X.K) (h2 : Y.prog = X.prog) (h3 : Y.w = X.w) (h4 : Y.mg = X.mg) (h5 : Y.base = X.base) : ClF Y kk j cal mt pr mk := by
  obtain ⟨a, b, c, d, e, f, g⟩ := F
  constructor
  · rw [h1]; exact a
  · rw [h1]; exact b
  · rw [h1]; exact c
  · rw [h1]; exact d
  · rw [h1, h2, h3, h4, h5]; exact e
  · rw [h1, h2, h3, h4, h5]; exact f
  · rw [h1, h2, h3, h4, h5]; exact g
theorem ClF.at {X : Cx} {kk : Kg} {j : Nat} {cal : Nat → List D → Sto → R D} {G : Prog} {fr : Nat} (F : ClF X kk j cal G.mt G.pr G.mkt) (n : Nat) : ClF X kk j cal (ev G cal fr n).mt (ev G cal fr n).pr (ev G cal fr n).mkt := by
  cases n with
  | zero =>
    constructor
    · intro _ _ _ h; cases h
    · intro _ _ _ _ h; cases h
    · intro _ _ _ _ _ _ h; cases h
    · intro _ _ _ _ h; cases h
    · intro _ _ _ _ h; cases h
    · intro _ _ _ _ h; cases h
    · intro _ _ _ h; cases h
  | succ n => exact F
section
variable {k : Ka} {cal : Nat → List D → Sto → R D} {c : Cf} {sc : Scope} {fb : Str → Bool} {j : Nat} {W : WX} {X : Cx} {G : Prog} {f : Expr → Option E}
theorem XC.room (x : XC k G cal c sc fb j W X) : Room j X.A := x.rx.toRoom
theorem XC.un (x : XC k G cal c sc fb j W X) : X.A.units + 66 < cLine := by
  have := x.room.un
  omega
theorem XC.un1 (x : XC k G cal c sc fb j W X) : X.A.units + 65 < cLine := by
  have := x.un
  omega
theorem XC.blk (x : XC k G cal c sc fb j W X) (s0 : Shared) (H : Hp) (scope : Scope) (C : Addr) (cl : List (Str × Addr)) (fp : List Addr) :
    XC k G cal c.inB (relS scope sc) (fun x => match scope.names.lookup x with | some .cell => true | _ => false) j WN (X.blk s0 H scope (compEnvC scope cl C X.env) fp) where
  K := x.K
  N := x.N
  nd := x.nd
  sc := by
    show relS scope X.env.scope = _
    rw [x.sc]
  fb := fun y h => by
    show (scope.names.lookup y == some .cell) = true
    split at h
    · rename_i e
      rw [e]; rfl
    · cases h
  calm := x.calm
  rx := x.rx
  gu := x.gu
  tk := takes0
  con := x.con
  fn := x.fn
  free := x.free
  jf := x.jf
  lo := x.lo
  kf := fun h => by cases h
  tb := fun h => by cases h
  q := fun h => by cases h
  fo := x.fo
  lto := x.lto
  ltc := x.ltc
  cf := x.cf.of rfl rfl rfl rfl rfl
  cn := x.cn
  kbf := fun h => by cases h
theorem XC.blkK (x : XC k G cal c sc fb j W X) (s0 : Shared) (H : Hp) (scope : Scope) (C : Addr) (cl : List (Str × Addr)) (fp : List Addr) :
    XC (kb k s0.heap H fp) G cal c.inK (relS scope sc) (fun x => match scope.names.lookup x with | some .cell => true | _ => false) j WN (X.blk s0 H scope (compEnvC scope cl C X.env) fp) where
  K := x.K
  N := x.N
  nd := x.nd
  sc := by
    show relS scope X.env.scope = _
    rw [x.sc]
  fb := fun y h => by
    show (scope.names.lookup y == some .cell) = true
    split at h
    · rename_i e
      rw [e]; rfl
    · cases h
  calm := x.calm
  rx := x.rx
  gu := x.gu
  tk := takes0
  con := x.con
  fn := x.fn
  free := x.free
  jf := x.jf
  lo := x.lo
  kf := fun h => by cases h
  tb := fun h => by cases h
  q := fun h => by cases h
  fo := x.fo
  lto := x.lto
  ltc := x.ltc
  cf := x.cf.of rfl rfl rfl rfl rfl
  cn := x.cn
  kbf := fun _ => ⟨rfl, rfl, rfl⟩
theorem okN_of {x : Str} (h : okN x = true) : (x == ("__debug__" : Str)) = false ∧ (x == ("__classdict__" : Str)) = false := by
  unfold okN at h
  simpa [Bool.and_eq_true] using h
theorem isVis_of {x : Str} (h : isVis sc x = true) : Vis sc x := by
  unfold isVis at h
  split at h <;> first | exact .inl (by assumption) | exact .inr (.inl (by assumption)) | exact .inr (.inr (by assumption)) | cases h
theorem isGl_of (x : XC k G cal c sc fb j W X) {y : Str} (h : isGl sc y = true) : Gl X y := by
  unfold isGl at h
  split at h
  · show X.env.scope.names.lookup y = _
    rw [x.sc]
    assumption
  · cases h
/-- an expression's reading, at each level -/
def Ok (k : Ka) (W : WX) (G : Prog) (cal : Nat → List D → Sto → R D) (X : Cx) (e : Expr) (e' : E) (m : Nat) : Prop := ∀ n, PE X e (rdE k W ((ev G cal k.fr n).e e')) ∧ ((∃ q, tst q e = true) → PT X e (rdT k W ((ev G cal k.fr n).t e')) ∧ ((∃ o vs p, e = .BoolOp o vs p) → PW X e (rdT k W ((ev G cal k.fr n).t e'))))
theorem bad_pe {e : Expr} {e' : E} : PE X e (rdE k W ((ev G cal k.fr 0).e e')) := ⟨fun _ _ _ _ _ _ h => by
  obtain ⟨_, _, _, _, _, b⟩ := h
  exact b.elim⟩
theorem bad_pt {e : Expr} {e' : E} : PT X e (rdT k W ((ev G cal k.fr 0).t e')) := ⟨fun _ _ _ _ _ _ h => by
  obtain ⟨_, _, _, _, _, b⟩ := h
  exact b.elim⟩
theorem bad_pw {e : Expr} {e' : E} : PW X e (rdT k W ((ev G cal k.fr 0).t e')) := ⟨fun _ _ _ _ _ _ _ h => by
  obtain ⟨_, _, _, _, _, b⟩ := h
  exact b.elim⟩
/-- where nothing is told -/
theorem bad0 {e : Expr} {e' : E} (h : ∀ L S, evE cal k.fr badE e' L S = .bad) : PE X e (rdE k W (evE cal k.fr (ev G cal k.fr 0) e')) := ⟨fun _ _ _ _ _ _ q => by
  obtain ⟨_, L, S, _, _, b⟩ := q
  rw [show evE cal k.fr (ev G cal k.fr 0) e' L S = .bad from h L S] at b
  exact b.elim⟩
/-- at the level above -/
theorem Ok.mk {e : Expr} {e' : E} {m : Nat} (h : ∀ n, PE X e (rdE k W (evE cal k.fr (ev G cal k.fr n) e')) ∧ ((∃ q, tst q e = true) → PT X e (rdT k W (evT cal k.fr (ev G cal k.fr n) e')) ∧ ((∃ o vs p, e = .BoolOp o vs p) → PW X e (rdT k W (evT cal k.fr (ev G cal k.fr n) e'))))) : Ok k W G cal X e e' m := fun n => by
  cases n with
  | zero => exact ⟨bad_pe, fun _ => ⟨bad_pt, fun _ => bad_pw⟩⟩
  | succ n => exact h n
/-- a plain expression -/
theorem Ok.plain {e : Expr} {e' : E} {m : Nat} (hK : X.K = k.K) (hp : plainTest e = true) (ht : ∀ s : Ev, evT cal k.fr s e' = fun L S => (evE cal k.fr s e' L S).bind fun x S1 => truR x S1) (h : ∀ n, PE X e (rdE k W (evE cal k.fr (ev G cal k.fr n) e'))) : Ok k W G cal X e e' m :=
  Ok.mk fun n => ⟨h n, fun _ => ⟨st_plain hK hp (h n) (ht _), fun ⟨o, vs, p, z⟩ => by rw [z] at hp; cases hp⟩⟩
theorem Ok.e {e : Expr} {e' : E} {m : Nat} (h : Ok k W G cal X e e' m) (n : Nat) : PE X e (rdE k W ((ev G cal k.fr n).e e')) := (h n).1
theorem Ok.t {e : Expr} {e' : E} {m : Nat} (h : Ok k W G cal X e e' m) {q : Nat} (ht : tst q e = true) (n : Nat) : PT X e (rdT k W ((ev G cal k.fr n).t e')) := ((h n).2 ⟨q, ht⟩).1
theorem Ok.iso {e : Expr} {e' : E} {m : Nat} {ms : List Nat} (h : Ok k W G cal X e e' m) : Ok k W G cal X e (.iso ms e') m :=
  Ok.mk fun n => ⟨se_iso (h.e n), fun ht => ⟨st_iso ((h n).2 ht).1, fun hw => sw_iso (((h n).2 ht).2 hw)⟩⟩
theorem trL_len : ∀ {es : List Expr} {es' : List E}, trL f es = some es' → es'.length = es.length
  | [], es', h => by
    cases (show some [] = some es' from h)
    rfl
  | e :: es, es', h => by
    unfold trL at h
    split at h
    · rename_i a b h1 h2
      cases h
      exact congrArg (· + 1) (trL_len h2)
    · cases h
theorem trL_one {e : Expr} {e' : E} (h : trL f [e] = some [e']) : f e = some e' := by
  unfold trL at h
  split at h
  · rename_i a b h1 h2
    cases h
    exact h1
  · cases h
theorem pa_ok {s : Ev} : ∀ {es : List Expr} {es' : List E}, es.all noStar = true → (∀ e e', f e = some e' → PE X e (rdE k W (s.e e'))) → trL f es = some es' → PA X es (rdA k W (evs s es'))
  | [], es', _, _, h => by
    cases (show some [] = some es' from h)
    exact sa_nil
  | e :: es, es', hs, hf, h => by
    rw [List.all_cons, Bool.and_eq_true] at hs
    unfold trL at h
    split at h
    · rename_i a b h1 h2
      cases h
      exact sa_cons hs.1 (hf e a h1) (pa_ok hs.2 hf h2)
    · cases h
theorem op2_some {g : E → E → E} {a b : Option E} {r : E} (h : op2 g a b = some r) : ∃ x y, a = some x ∧ b = some y ∧ r = g x y := by
  unfold op2 at h
  split at h
  · cases h; exact ⟨_, _, rfl, rfl, rfl⟩
  · cases h
theorem op3_some {g : E → E → E → E} {a b d : Option E} {r : E} (h : op3 g a b d = some r) : ∃ x y z, a = some x ∧ b = some y ∧ d = some z ∧ r = g x y z := by
  unfold op3 at h
  split at h
  · cases h; exact ⟨_, _, _, rfl, rfl, rfl, rfl⟩
  · cases h
theorem name_ok (x : XC k G cal c sc fb j W X) {y : Str} {pos : Pos} {e' : E} {m : Nat} (h : trName c sc y = some e') : Ok k W G cal X (.Name y pos) e' m := by
  unfold trName at h
  split at h
  · rename_i hN
    obtain ⟨h1, h2⟩ := okN_of hN
    split at h
    · rename_i hv
      obtain ⟨i, h3, rfl⟩ := Option.map_eq_some_iff.mp h
      refine Ok.plain x.K rfl (fun _ => rfl) fun n => se_v (by rw [x.N]; exact ixOf_ok h3) ?_ h1 h2
      rw [x.sc]
      exact isVis_of hv
    · split at h
      · rename_i hg
        split at h
        · rename_i p h3
          cases h
          obtain ⟨u, v, q1, q2, q3⟩ := x.con y p h3
          exact Ok.plain x.K rfl (fun _ => rfl) fun n => se_k (pe_glob (isGl_of x hg) q1 q2 h1) q3
        · obtain ⟨⟨i, np, dps⟩, h3, rfl⟩ := Option.map_eq_some_iff.mp h
          obtain ⟨f, fd, ps, q1, _, _, q4, _⟩ := x.fn y i np dps h3
          exact Ok.plain x.K rfl (fun _ => rfl) fun n => se_k (pe_glob (v := .ref f) (isGl_of x hg) q1 rfl h1) fun _ _ => .fn q4
      · cases h
  · cases h
theorem const_ok (x : XC k G cal c sc fb j W X) {v : Const} {i : Nat} {pos : Pos} {e' : E} {m : Nat} (h : trConst v = some e') : Ok k W G cal X (.Constant v i pos) e' m := by
  unfold trConst at h
  split at h
  · cases h; exact Ok.plain x.K rfl (fun _ => rfl) fun n => se_k pe_non fun _ _ => .non
  · cases h; exact Ok.plain x.K rfl (fun _ => rfl) fun n => se_k pe_bl fun _ _ => .bl _
  · cases h; exact Ok.plain x.K rfl (fun _ => rfl) fun n => se_k pe_int fun _ _ => .int _
  · cases h; exact Ok.plain x.K rfl (fun _ => rfl) fun n => se_k pe_str fun _ _ => .str _
  · cases h
theorem call_ok (x : XC k G cal c sc fb j W X) {y : Str} {args : List Expr} {p pos : Pos} {e' : E} {m : Nat} (hf : ∀ e e', f e = some e' → ∀ n, PE X e (rdE k W ((ev G cal k.fr n).e e'))) (h : trCall c sc f y args = some e') : Ok k W G cal X (.Call (.Name y p) args [] pos) e' m := by
  unfold trCall at h
  split at h
  · rename_i h0
    rw [Bool.and_eq_true] at h0
    obtain ⟨hN, hg⟩ := h0
    obtain ⟨h1, _⟩ := okN_of hN
    have gl := isGl_of x hg
    split at h
    · rename_i i np dps hc
      unfold trFn at h
      split at h
      · rename_i h2
        simp only [Bool.and_eq_true] at h2
        obtain ⟨⟨hs, l1⟩, l2⟩ := h2
        have l1 : args.length ≤ np := Nat.le_of_ble_eq_true l1
        have l2 : np - args.length ≤ dps.length := Nat.le_of_ble_eq_true l2
        obtain ⟨es, h3, rfl⟩ := Option.map_eq_some_iff.mp h
        obtain ⟨fa, fd, ps, q1, q2, q3, _, q4⟩ := x.fn y i np dps hc
        obtain ⟨dvs, ds, q5, q6, q7⟩ := q4 (dps.length - (np - args.length)) (Nat.sub_le _ _)
        have hl : es.length + (dps.drop (dps.length - (np - args.length))).length = np := by
          rw [List.length_drop, trL_len h3]; omega
        have hn : args = [] → es = [] := fun z => by
          subst z
          cases (show some [] = some es from h3)
          rfl
        have hj : j ≤ k.fr := Nat.le_of_eq x.jf.symm
        cases hbl : c.blk with
        | true =>
          rw [if_pos rfl]
          cases hkb : c.kb with
          | true =>
            rw [if_pos rfl]
            exact Ok.plain x.K rfl (fun _ => rfl) fun n => se_callK (x.kbf hkb) x.lo hj q3 x.room x.gu x.tk gl q1 q2 q7 q6 q5 h1 hs (pa_ok hs (fun e e' z => hf e e' z n) h3) hl hn
          | false => exact Ok.plain x.K rfl (fun _ => rfl) fun n => se_callB x.lo hj q3 x.room x.gu x.tk gl q1 q2 q7 q6 q5 h1 hs (pa_ok hs (fun e e' z => hf e e' z n) h3) hl hn
        | false => exact Ok.plain x.K rfl (fun _ => rfl) fun n => se_call (x.kf hbl) x.lo hj q3 x.room x.gu x.tk gl q1 q2 q7 q6 q5 h1 hs (pa_ok hs (fun e e' z => hf e e' z n) h3) hl hn
      · cases h
    · split at h
      · unfold trMk at h
        split at h
        · rename_i h2
          rw [Bool.and_eq_true, Bool.not_eq_true'] at h2
          split at h
          · rename_i ci hci
            obtain ⟨es, h3, rfl⟩ := Option.map_eq_some_iff.mp h
            obtain ⟨C, i, q1, q2, q3⟩ := x.cn y ci hci
            have hnil : args = [] → es = [] := fun z => by
              subst z
              cases (show some [] = some es from h3)
              rfl
            refine Ok.plain x.K rfl (fun _ => rfl) fun n => ?_
            cases n with
            | zero => exact bad0 fun L S => by cases es <;> rfl
            | succ n => exact se_mk (s := ev G cal k.fr (n + 1)) (x.kf h2.1) x.lo (Nat.le_of_eq x.jf.symm) (x.cf.at (n + 1)) q3 q2 x.rx x.gu x.tk gl q1 h1 h2.2 (pa_ok h2.2 (fun e e' z => hf e e' z (n + 1)) h3) hnil
          · cases h
        · cases h
      split at h
      · rename_i hfr
        have mN := x.free y hfr
        split at h
        · rename_i hi
          obtain rfl : y = isiN := eq_of_beq hi
          unfold trIsi at h
          split at h
          · rename_i e t p2
            split at h
            · rename_i h2
              simp only [Bool.and_eq_true] at h2
              obtain ⟨⟨hs, hg2⟩, hf2⟩ := h2
              split at h
              · rename_i T hT
                obtain ⟨e2, h3, rfl⟩ := Option.map_eq_some_iff.mp h
                have gl2 := isGl_of x hg2
                have mN2 := x.free t hf2
                obtain rfl := tyOf_ok hT
                exact Ok.plain x.K rfl (fun _ => rfl) fun n => se_isi x.K gl mN gl2 mN2 hs (hf _ _ h3 n)
              · cases h
            · split at h
              · rename_i h2
                simp only [Bool.and_eq_true] at h2
                obtain ⟨⟨hs, hg2⟩, hN2⟩ := h2
                split at h
                · rename_i ci hci
                  obtain ⟨e2, h3, rfl⟩ := Option.map_eq_some_iff.mp h
                  obtain ⟨C, i, q1, q2, q3⟩ := x.cn t ci hci
                  refine Ok.plain x.K rfl (fun _ => rfl) fun n => ?_
                  cases n with
                  | zero => exact bad0 fun L S => rfl
                  | succ n => exact se_isc (s := ev G cal k.fr (n + 1)) x.K (x.cf.at (n + 1)) q3 q2 gl mN (isGl_of x hg2) q1 (okN_of hN2).1 hs (hf _ _ h3 (n + 1))
                · cases h
              · cases h
          · cases h
        · unfold trBi at h
          split at h
          · rename_i b e es hb
            split at h
            · rename_i hs
              obtain ⟨es', h3, rfl⟩ := Option.map_eq_some_iff.mp h
              obtain rfl := biOf_ok hb
              exact Ok.plain x.K rfl (fun _ => rfl) fun n => se_bi x.K x.calm x.gu x.un gl mN hs (pa_ok hs (fun e e' z => hf e e' z n) h3)
            · cases h
          · cases h
      · cases h
  · split at h
    · rename_i h0
      simp only [Bool.and_eq_true, Bool.not_eq_true'] at h0
      obtain ⟨⟨⟨hN, hv⟩, hb⟩, hs⟩ := h0
      obtain ⟨h1, h2⟩ := okN_of hN
      split at h
      · rename_i i es hi h3
        cases h
        have hi : X.N[i]? = some y := by rw [x.N]; exact ixOf_ok hi
        refine Ok.plain x.K rfl (fun _ => rfl) fun n => se_calL (x.kf hb) x.lo (Nat.le_of_eq x.jf.symm) x.fo x.lto x.room x.gu x.tk hi ?_ h1 h2 hs (pa_ok hs (fun e e' z => hf e e' z n) h3) fun z => ?_
        · rw [x.sc]
          exact isVis_of hv
        · subst z
          cases (show some [] = some es from h3)
          rfl
      · cases h
    · cases h
theorem lam_ok (x : XC k G cal c sc fb j W X) {params : Arguments} {body : Expr} {scope : Scope} {p : Pos} {e' : E} {m : Nat} (h : trLam c sc params body scope p = some e') : Ok k W G cal X (.Lambda params body scope p) e' m := by
  unfold trLam at h
  split at h
  · rename_i h0
    simp only [Bool.and_eq_true, Bool.not_eq_true'] at h0
    split at h
    · rename_i f sl hl
      split at h
      · rename_i t ht
        split at h
        · rename_i h1
          simp only [Bool.and_eq_true, decide_eq_true_eq] at h1
          obtain ⟨⟨⟨⟨⟨⟨a1, a2⟩, a3⟩, a4⟩, a5⟩, a6⟩, a7⟩ := h1
          cases h
          obtain ⟨e1, e2⟩ := eqArgs_ok a1
          have e3 := eqE_ok _ _ _ a2
          subst e1 e3 a3
          refine Ok.plain x.K rfl (fun _ => rfl) fun n => se_lam (x.kf h0.1) (x.tb h0.1 h0.2) (x.ltc f t ht) (by rw [x.q h0.1]; exact a4) (e2 _) (by rw [x.N]; exact a5) (by rw [x.sc]; exact a6) fun y hy hf => ?_
          have z := List.all_eq_true.mp a7 y hy
          simp only [Bool.or_eq_true, Bool.not_eq_true', decide_eq_false_iff_not, decide_eq_true_eq] at z
          exact z.elim (fun q => absurd hf q) id
        · cases h
      · cases h
    · cases h
  · cases h
theorem dict_ok (x : XC k G cal c sc fb j W X) {keys : List (Option Expr)} {vals : List Expr} {p : Pos} {e' : E} {m : Nat} (hf : ∀ e e', f e = some e' → ∀ n, PE X e (rdE k W ((ev G cal k.fr n).e e'))) (h : trDict f keys vals = some e') : Ok k W G cal X (.Dict keys vals p) e' m := by
  unfold trDict at h
  split at h
  · rename_i h0
    obtain ⟨⟨ks, ps⟩, h1, rfl⟩ := Option.map_eq_some_iff.mp h
    refine Ok.plain x.K rfl (fun _ => rfl) fun n => se_dct (fun e e' z => hf e e' z n) h1 (Nat.le_of_ble_eq_true h0)
  · cases h
theorem trO_ok {s : Ev} {e : Option Expr} {e' : Option E} (hf : ∀ e e', f e = some e' → PE X e (rdE k W (s.e e'))) (h : trO f e = some e') : PO X e (rdO k W (evOpt s e')) := by
  cases e with
  | none => cases h; exact so_none
  | some e =>
    obtain ⟨y, h1, rfl⟩ := Option.map_eq_some_iff.mp h
    exact so_some (hf e y h1)
theorem sub_ok (x : XC k G cal c sc fb j W X) {a i : Expr} {pos : Pos} {e' : E} {m : Nat} (hf : ∀ e e', f e = some e' → ∀ n, PE X e (rdE k W ((ev G cal k.fr n).e e'))) (h : trSub f a i = some e') : Ok k W G cal X (.Subscript a i pos) e' m := by
  unfold trSub at h
  split at h
  · split at h
    · rename_i a' lo' hi' h1 h2 h3
      cases h
      exact Ok.plain x.K rfl (fun _ => rfl) fun n => se_sl x.K (hf _ _ h1 n) (trO_ok (fun e e' z => hf e e' z n) h2) (trO_ok (fun e e' z => hf e e' z n) h3)
    · cases h
  · obtain ⟨a', h1, rfl⟩ := Option.map_eq_some_iff.mp h
    exact Ok.plain x.K rfl (fun _ => rfl) fun n => se_rev x.K (hf _ _ h1 n)
  · cases h
  · rename_i n1 n2 n3
    obtain ⟨a', i', h1, h2, rfl⟩ := op2_some h
    refine Ok.plain x.K rfl (fun _ => rfl) fun n => se_ix x.K ?_ (hf _ _ h1 n) (hf _ _ h2 n)
    cases i <;> first | rfl | exact (n3 _ _ _ _ rfl).elim
mutual
theorem trG_ok (x : XC k G cal c sc fb j W X) : ∀ {m : Nat} {e : Expr} {t : Tg}, trG c sc fb m e = some t → PG X e (rdG k t)
  | m, .Name y p, t, h => by
    unfold trG at h
    split at h
    · rename_i hv
      obtain ⟨i, h1, rfl⟩ := Option.map_eq_some_iff.mp h
      have hi : X.N[i]? = some y := by rw [x.N]; exact ixOf_ok h1
      unfold isTg at hv
      split at hv
      · rename_i e
        rw [← x.sc] at e
        exact sg_name x.nd hi (.inl e) (.inr e)
      · rename_i e
        rw [← x.sc] at e
        exact sg_name x.nd hi (.inr e) (.inl (x.fb _ hv))
      · cases hv
    · cases h
  | m + 1, .Tuple es kt p, t, h => by
    unfold trG at h
    split at h
    · rename_i hs
      obtain ⟨ts, h1, rfl⟩ := Option.map_eq_some_iff.mp h
      obtain ⟨q1, q2⟩ := trGs_ok x hs h1
      exact sg_tup x.K x.calm q2 hs q1
    · cases h
  | 0, .Tuple es kt p, t, h => by simp [trG] at h
  | _, .BoolOp .., _, h => by simp [trG] at h
  | _, .NamedExpr .., _, h => by simp [trG] at h
  | _, .BinOp .., _, h => by simp [trG] at h
  | _, .UnaryOp .., _, h => by simp [trG] at h
  | _, .Lambda .., _, h => by simp [trG] at h
  | _, .IfExp .., _, h => by simp [trG] at h
  | _, .Dict .., _, h => by simp [trG] at h
  | _, .Set .., _, h => by simp [trG] at h
  | _, .ListComp .., _, h => by simp [trG] at h
  | _, .SetComp .., _, h => by simp [trG] at h
  | _, .DictComp .., _, h => by simp [trG] at h
  | _, .GeneratorExp .., _, h => by simp [trG] at h
  | _, .Await .., _, h => by simp [trG] at h
  | _, .Yield .., _, h => by simp [trG] at h
  | _, .YieldFrom .., _, h => by simp [trG] at h
  | _, .Compare .., _, h => by simp [trG] at h
  | _, .Call .., _, h => by simp [trG] at h
  | _, .FormattedValue .., _, h => by simp [trG] at h
  | _, .JoinedStr .., _, h => by simp [trG] at h
  | _, .Constant .., _, h => by simp [trG] at h
  | _, .Attribute .., _, h => by simp [trG] at h
  | _, .Subscript .., _, h => by simp [trG] at h
  | _, .Starred .., _, h => by simp [trG] at h
  | _, .List .., _, h => by simp [trG] at h
  | _, .Slice .., _, h => by simp [trG] at h
theorem trGs_ok (x : XC k G cal c sc fb j W X) : ∀ {m : Nat} {es : List Expr} {ts : List Tg}, es.all noStar = true → trGs c sc fb m es = some ts → PGs X es (rdGs k ts) ∧ es.length = ts.length
  | m, [], ts, _, h => by
    unfold trGs at h
    cases h
    exact ⟨sg_nil, rfl⟩
  | m, e :: es, ts, hs, h => by
    rw [List.all_cons, Bool.and_eq_true] at hs
    unfold trGs at h
    split at h
    · rename_i a b h1 h2
      cases h
      obtain ⟨q1, q2⟩ := trGs_ok x hs.2 h2
      exact ⟨sg_cons (trG_ok x h1) q1 hs.1, congrArg (· + 1) q2⟩
    · cases h
end
theorem fold_of {e : Expr} (h : noSet e = true) (env : Env) (v : Value) : foldedSetIterable e env v = pure v := by
  cases e <;> first | rfl | cases h
theorem trI_ok (x : XC k G cal c sc fb j W X) {tg it : Expr} {kk : Sk} {es : List E} (hf : ∀ e e', f e = some e' → ∀ n, PE X e (rdE k W ((ev G cal k.fr n).e e'))) (h : trI c sc f tg it = some (kk, es)) :
    (∀ n, PI X tg it (rdI k W (walkE (ev G cal k.fr n) kk es))) ∧ ∀ (env : Env) (v : Value), foldedSetIterable it env v = pure v := by
  unfold trI at h
  split at h
  · rename_i s0 es0 hw
    obtain ⟨es', h1, h2⟩ := Option.map_eq_some_iff.mp h
    cases h2
    unfold trW at hw
    split at hw
    · rename_i y p a pos
      split at hw
      · rename_i h0
        simp only [Bool.and_eq_true] at h0
        obtain ⟨⟨hs, hg⟩, hfr⟩ := h0
        have gl := isGl_of x hg
        have mN := x.free y hfr
        have hsA : [a].all noStar = true := by simp [hs]
        refine ⟨fun n => ?_, fun env v => rfl⟩
        split at hw
        · rename_i e
          obtain rfl : y = rangeN := eq_of_beq e
          cases hw
          have pa := pa_ok hsA (fun e e' z => hf e e' z n) h1
          obtain ⟨a', rfl⟩ : ∃ a', es = [a'] := by
            have := trL_len h1
            match es, this with
            | [a'], _ => exact ⟨a', rfl⟩
          exact si_rng1 gl mN hs pa
        · split at hw
          · rename_i e
            rw [Bool.and_eq_true] at e
            obtain rfl : y = enumN := eq_of_beq e.1
            have ht := e.2
            cases hw
            have pa := pa_ok hsA (fun e e' z => hf e e' z n) h1
            obtain ⟨a', rfl⟩ : ∃ a', es = [a'] := by
              have := trL_len h1
              match es, this with
              | [a'], _ => exact ⟨a', rfl⟩
            cases tg <;> first | (cases ht; done) | skip
            exact si_enum x.K gl mN hs pa
          · cases hw
      · cases hw
    · rename_i y p a b pos
      split at hw
      · rename_i h0
        simp only [Bool.and_eq_true] at h0
        obtain ⟨⟨⟨hs, hs2⟩, hg⟩, hfr⟩ := h0
        have gl := isGl_of x hg
        have mN := x.free y hfr
        have hsA : [a, b].all noStar = true := by simp [hs, hs2]
        refine ⟨fun n => ?_, fun env v => rfl⟩
        split at hw
        · rename_i e
          obtain rfl : y = rangeN := eq_of_beq e
          cases hw
          have pa := pa_ok hsA (fun e e' z => hf e e' z n) h1
          obtain ⟨a', b', rfl⟩ : ∃ a' b', es = [a', b'] := by
            have := trL_len h1
            match es, this with
            | [a', b'], _ => exact ⟨a', b', rfl⟩
          exact si_rng2 gl mN hs hs2 pa
        · split at hw
          · rename_i e
            rw [Bool.and_eq_true] at e
            obtain rfl : y = zipN := eq_of_beq e.1
            have ht := e.2
            cases hw
            have pa := pa_ok hsA (fun e e' z => hf e e' z n) h1
            obtain ⟨a', b', rfl⟩ : ∃ a' b', es = [a', b'] := by
              have := trL_len h1
              match es, this with
              | [a', b'], _ => exact ⟨a', b', rfl⟩
            cases tg <;> first | (cases ht; done) | skip
            exact si_zip x.K gl mN hs hs2 pa
          · cases hw
      · cases hw
    · rename_i e mm ap cp
      split at hw
      · rename_i h0
        rw [Bool.and_eq_true] at h0
        refine ⟨fun n => ?_, fun env v => rfl⟩
        split at hw
        · rename_i e0
          obtain rfl : mm = valuesN := eq_of_beq e0
          cases hw
          obtain ⟨a', rfl⟩ : ∃ a', es = [a'] := by
            have := trL_len h1
            match es, this with
            | [a'], _ => exact ⟨a', rfl⟩
          exact si_vals h0.1 h0.2 (hf _ _ (trL_one h1) n)
        · split at hw
          · rename_i e0
            rw [Bool.and_eq_true] at e0
            obtain rfl : mm = itemsN := eq_of_beq e0.1
            have ht := e0.2
            cases hw
            obtain ⟨a', rfl⟩ : ∃ a', es = [a'] := by
              have := trL_len h1
              match es, this with
              | [a'], _ => exact ⟨a', rfl⟩
            cases tg <;> first | (cases ht; done) | skip
            exact si_items h0.1 h0.2 (hf _ _ (trL_one h1) n)
          · cases hw
      · cases hw
    · cases hw
  · split at h
    · rename_i hs
      obtain ⟨e', h1, h2⟩ := Option.map_eq_some_iff.mp h
      cases h2
      exact ⟨fun n => si_it x.K (hf it e' h1 n), fun env v => fold_of hs env v⟩
    · cases h
/-- o.m(..) -/
theorem meth_ok (x : XC k G cal c sc fb j W X) {o : Expr} {y : Str} {args : List Expr} {ap cp : Pos} {e' : E} {m : Nat} (hf : ∀ e e', f e = some e' → ∀ n, PE X e (rdE k W ((ev G cal k.fr n).e e'))) (h : trMeth c f o y args ap cp = some e') : Ok k W G cal X (.Call (.Attribute o y ap) args [] cp) e' m := by
  unfold trMeth at h
  split at h
  · rename_i h0
    simp only [Bool.and_eq_true] at h0
    obtain ⟨⟨⟨hb, hs⟩, hl⟩, hln⟩ := h0
    have hl' : args.length < 30 := by
      have := Nat.le_of_ble_eq_true hl
      omega
    have m0 : ∀ {args : List Expr} {e' : E}, args.all noStar = true → args.length < 30 → trMeth.trM0 c f o y args = some e' → Ok k W G cal X (.Call (.Attribute o y ap) args [] cp) e' m := by
      intro args e' hs hl h
      unfold trMeth.trM0 at h
      split at h
      · cases h
      · rename_i hbl
        split at h
        · rename_i o' es h1 h2
          cases h
          exact Ok.plain x.K rfl (fun _ => rfl) fun n => se_meth (x.kf (by simpa using hbl)) x.lo (Nat.le_of_eq x.jf.symm) (x.cf.at n) x.room x.gu x.tk hb hs hl hln (hf _ _ h1 n) (pa_ok hs (fun e e' z => hf e e' z n) h2) fun z => by
            subst z
            cases (show some [] = some es from h2)
            rfl
        · cases h
    clear hl
    have hl : args.length < 30 := hl'
    clear hl'
    revert hs hl h
    split
    · rename_i a b
      intro h hs hl
      have h1 : noStar a = true ∧ noStar b = true := by simpa using hs
      split at h
      · rename_i e0
        obtain rfl : y = getN := eq_of_beq e0
        split at h
        · rename_i o' a' b' q1 q2 q3
          cases h
          exact Ok.plain x.K rfl (fun _ => rfl) fun n => se_dget (by have := x.un; omega) hb hln h1.1 h1.2 (hf _ _ q1 n) (hf _ _ q2 n) (hf _ _ q3 n)
        · cases h
      · exact m0 hs hl h
    · rename_i a
      intro h hs hl
      have h1 : noStar a = true := by simpa using hs
      split at h
      · rename_i e0
        obtain rfl : y = countN := eq_of_beq e0
        split at h
        · rename_i o' a' q1 q2
          cases h
          exact Ok.plain x.K rfl (fun _ => rfl) fun n => se_cnt x.K hb hln h1 (hf _ _ q1 n) (hf _ _ q2 n)
        · cases h
      · split at h
        · rename_i e0
          obtain rfl : y = indexN := eq_of_beq e0
          split at h
          · rename_i o' a' q1 q2
            cases h
            exact Ok.plain x.K rfl (fun _ => rfl) fun n => se_idx x.K hb hln h1 (hf _ _ q1 n) (hf _ _ q2 n)
          · cases h
        · exact m0 hs hl h
    · intro h hs hl
      exact m0 hs hl h
  · cases h
theorem fld_ok (x : XC k G cal c sc fb j W X) {o : Expr} {y : Str} {pos : Pos} {o' : E} {m : Nat} (hb : noCall o = true) (h : ∀ n, PE X o (rdE k W ((ev G cal k.fr n).e o'))) : Ok k W G cal X (.Attribute o y pos) (.fld o' y) m :=
  Ok.plain x.K rfl (fun _ => rfl) fun n => se_fld x.lo (Nat.le_of_eq x.jf.symm) (x.cf.at n) x.rx x.gu x.tk (base_of hb _ _ _) (h n)
theorem fst_ok (x : XC k G cal c sc fb j W X) {es : List Expr} {pos : Pos} {e' : E} {m : Nat} (hf : ∀ e e', f e = some e' → ∀ n, PE X e (rdE k W ((ev G cal k.fr n).e e'))) (h : trFst f es = some e') : Ok k W G cal X (.JoinedStr es pos) e' m := by
  unfold trFst at h
  split at h
  · obtain ⟨a', h1, rfl⟩ := Option.map_eq_some_iff.mp h
    exact Ok.plain x.K rfl (fun _ => rfl) fun n => se_fst x.K x.gu x.un (hf _ _ h1 n)
  · cases h
/-- starred displays -/
theorem sp_ok (hK : X.K = k.K) {s : Ev} : ∀ {es : List Expr} {es' : List E}, (∀ e e', f e = some e' → PE X e (rdE k W (s.e e'))) → trL f (es.map unSt) = some es' → PA X es (rdP k W (evsS s (stB es) es'))
  | [], es', _, h => by
    cases (show some [] = some es' from h)
    exact sp_nil
  | e :: es, es', hf, h => by
    rw [List.map_cons] at h
    unfold trL at h
    split at h
    · rename_i a b h1 h2
      cases h
      have ih := sp_ok hK hf h2
      cases e with
      | Starred e p => exact sp_star hK (hf _ _ h1) ih
      | _ => exact sp_cons rfl (hf _ _ h1) ih
    · cases h
theorem star_ok (x : XC k G cal c sc fb j W X) {es : List Expr} {e' : E} {tup : Bool} (h : trSt f tup es = some e') : ∃ es', trL f (es.map unSt) = some es' ∧ e' = .star tup (stB es) es' := by
  obtain ⟨es', h1, rfl⟩ := Option.map_eq_some_iff.mp h
  exact ⟨es', h1, rfl⟩
/-- an expression of a statement -/
theorem trT_ok (x : XC k G cal c sc fb j W X) {e : Expr} {e' : E} {m : Nat} (hf : ∀ a a', f a = some a' → Ok k W G cal X a a' m) (h : trT c sc f e = some e') : Ok k W G cal X e e' m := by
  unfold trT at h
  split at h
  · rename_i e1 h1
    split at h
    · cases h
      exact (hf _ _ h1).iso
    · split at h
      · refine call_ok x (fun a a' z => ?_) h
        obtain ⟨a1, h2, rfl⟩ := Option.map_eq_some_iff.mp z
        unfold wrapE
        split
        · exact fun n => ((hf _ _ h2).iso).e n
        · exact fun n => (hf _ _ h2).e n
      · cases h
        exact hf _ _ h1
  · cases h
end
end Mn
/-! Mn15: the translation of expressions is right, by induction. -/
namespace Mn
open L2 PyProof.Rows PySem.Spec PySem
section
variable {k : Ka} {cal : Nat → List D → Sto → R D} {c : Cf} {G : Prog} {j : Nat}
theorem evT_ite {fr : Nat} (s : Ev) (t a b : E) : evT cal fr s (.ite t a b) = fun L S => (evE cal fr s (.ite t a b) L S).bind fun x S1 => truR x S1 := rfl
theorem all_in {α : Type} {p : α → Bool} {l : List α} (h : l.all p = true) : ∀ x ∈ l, p x = true := List.all_eq_true.mp h
def ListOk (cal : Nat → List D → Sto → R D) (G : Prog) (j m : Nat) : Prop := ∀ (k : Ka) (c : Cf) (sc : Scope) (fb : Str → Bool) (e : Expr) (e' : E) (W : WX) (X : Cx), XC k G cal c sc fb j W X → trE c m sc e = some e' → Ok k W G cal X e e' m
theorem lc_ok {m : Nat} (ih : ListOk cal G j m) {sc : Scope} {fb : Str → Bool} {W : WX} {X : Cx} (x : XC k G cal c sc fb j W X) {el tg it : Expr} {ifs : List Expr} {scope : Scope} {p : Pos} {e' : E}
    (hw : (isWd el it && !c.blk) = false) (h : trE c (m + 1) sc (.ListComp el [⟨tg, it, ifs, 0⟩] scope p) = some e') : ∃ own ow tg' kk es cond el', ∃ tt : Nat → TT, e' = .lc own (ow.map (·.2)) tg' kk es cond el' ∧
      ∀ n, PI X tg it (rdI k W (walkE (ev G cal k.fr n) kk es)) ∧ BlkOk X.N X.env.scope scope ow ∧ (∀ v, foldedSetIterable it X.env v = pure v) ∧
        (∀ (s0 : Shared) (H : Hp) (C : Addr) (cl : List (Str × Addr)) (fp : List Addr), PG (X.blk s0 H scope (compEnvC scope cl C X.env) fp) tg (rdG k tg')) ∧
        (∀ (s0 : Shared) (H : Hp) (C : Addr) (cl : List (Str × Addr)) (fp : List Addr), PTs (X.blk s0 H scope (compEnvC scope cl C X.env) fp) ifs (tt n)) ∧
        (∀ (s0 : Shared) (H : Hp) (C : Addr) (cl : List (Str × Addr)) (fp : List Addr), PE (X.blk s0 H scope (compEnvC scope cl C X.env) fp) el (rdE k WN ((ev G cal k.fr n).e el'))) ∧
        ∀ (σ : Ls) (H : Hp) (Q : VK), rdE k W (evE cal k.fr (ev G cal k.fr n) e') σ H Q → tLc (rdI k W (walkE (ev G cal k.fr n) kk es)) (rdG k tg') (tt n) (rdE k WN ((ev G cal k.fr n).e el')) (ow.map (·.2)) σ H Q := by
  simp only [trE, hw] at h
  split at h
  · rename_i hb
    rw [if_neg (by decide)] at h
    split at h
    · rename_i tg' kk es el' h1 h2 h3
      split at h
      · rename_i hs
        have hsl : ∀ i ∈ slots tg', i ∈ (ownN c.N scope.names).map (·.2) := fun i hi => of_decide_eq_true (all_in hs i hi)
        obtain ⟨i1, i2⟩ := trI_ok (G := G) x (fun e e' z n => (ih _ _ _ _ _ _ _ _ x z).e n) h2
        have ok : BlkOk X.N X.env.scope scope (ownN c.N scope.names) := by
          rw [x.N, x.sc]
          exact blkOk_by hb
        have gg : ∀ (s0 : Shared) (H : Hp) (C : Addr) (cl : List (Str × Addr)) (fp : List Addr), PG (X.blk s0 H scope (compEnvC scope cl C X.env) fp) tg (rdG k tg') := fun s0 H C cl fp => trG_ok (x.blk s0 H scope C cl fp) h1
        have ee : ∀ (n : Nat) (s0 : Shared) (H : Hp) (C : Addr) (cl : List (Str × Addr)) (fp : List Addr), PE (X.blk s0 H scope (compEnvC scope cl C X.env) fp) el (rdE k WN ((ev G cal k.fr n).e el')) := fun n s0 H C cl fp => (ih _ _ _ _ _ _ _ _ (x.blk s0 H scope C cl fp) h3).e n
        split at h
        · cases h
          have tt : ∀ (s0 : Shared) (H : Hp) (C : Addr) (cl : List (Str × Addr)) (fp : List Addr), PTs (X.blk s0 H scope (compEnvC scope cl C X.env) fp) [] tYes := fun s0 H C cl fp => pts_nil
          exact ⟨_, _, tg', kk, es, none, el', fun _ => tYes, rfl, fun n => ⟨i1 n, ok, i2 X.env, gg, tt, ee n, se_lc (pos := p) x.calm x.nd (i1 n) ok hsl (i2 X.env) rfl gg tt (ee n)⟩⟩
        · rename_i t
          split at h
          · rename_i ht
            obtain ⟨t', h4, rfl⟩ := Option.map_eq_some_iff.mp h
            have tt : ∀ (n : Nat) (s0 : Shared) (H : Hp) (C : Addr) (cl : List (Str × Addr)) (fp : List Addr), PTs (X.blk s0 H scope (compEnvC scope cl C X.env) fp) [t] (rdT k WN ((ev G cal k.fr n).t t')) := fun n s0 H C cl fp => pts_one ((ih _ _ _ _ _ _ _ _ (x.blk s0 H scope C cl fp) h4).t ht n)
            exact ⟨_, _, tg', kk, es, some t', el', fun n => rdT k WN ((ev G cal k.fr n).t t'), rfl, fun n => ⟨i1 n, ok, i2 X.env, gg, tt n, ee n, se_lc (pos := p) x.calm x.nd (i1 n) ok hsl (i2 X.env) rfl gg (tt n) (ee n)⟩⟩
          · cases h
        · cases h
      · cases h
    · cases h
  · cases h
theorem isWd_fold {el it : Expr} (h : isWd el it = true) (env : Env) (v : Value) : foldedSetIterable it env v = pure v := by
  unfold isWd at h
  split at h
  · rfl
  · cases h
theorem lcR_ok {m : Nat} (ih : ListOk cal G j m) {sc : Scope} {fb : Str → Bool} {W : WX} {X : Cx} (x : XC k G cal c sc fb j W X) {el tg it : Expr} {ifs : List Expr} {scope : Scope} {p : Pos} {e' : E} {m' : Nat} (hw : (isWd el it && !c.blk) = true)
    (h : trE c (m + 1) sc (.ListComp el [⟨tg, it, ifs, 0⟩] scope p) = some e') : Ok k W G cal X (.ListComp el [⟨tg, it, ifs, 0⟩] scope p) e' m' := by
  simp only [trE, hw] at h
  rw [Bool.and_eq_true, Bool.not_eq_true'] at hw
  split at h
  · rename_i hb
    rw [if_pos trivial] at h
    split at h
    · rename_i tg' it' el' h1 h2 h3
      split at h
      · rename_i hs
        cases h
        have hsl : ∀ i ∈ slots tg', i ∈ (ownN c.N scope.names).map (·.2) := fun i hi => of_decide_eq_true (all_in hs i hi)
        have ok : BlkOk X.N X.env.scope scope (ownN c.N scope.names) := by
          rw [x.N, x.sc]
          exact blkOk_by hb
        exact Ok.plain x.K rfl (fun _ => rfl) fun n => se_lcR x.K (x.kf hw.2) x.calm x.nd ((ih _ _ _ _ _ _ _ _ x h2).e n) ok hsl (isWd_fold hw.1 X.env)
          (fun sb Gb C cl fp => trG_ok (x.blkK sb Gb scope C cl fp) h1) fun sb Gb C cl fp _ => (ih _ _ _ _ _ _ _ _ (x.blkK sb Gb scope C cl fp) h3).e n
      · cases h
    · cases h
  · cases h
theorem trE_ok : ∀ m, ListOk cal G j m := by
  intro m
  induction m with
  | zero =>
    intro k c sc fb e e' W X x h
    simp [trE] at h
  | succ m ih =>
    intro k c sc fb e e' W X x h
    have sub : ∀ {a a'}, trE c m sc a = some a' → Ok k W G cal X a a' m := fun z => ih _ _ _ _ _ _ _ _ x z
    cases e with
    | Name y pos => exact name_ok x (by simpa only [trE] using h)
    | Lambda params body scope pos => exact lam_ok x (by simpa only [trE] using h)
    | Dict keys vals pos => exact dict_ok x (fun e e' z n => (sub z).e n) (by simpa only [trE] using h)
    | JoinedStr es pos => exact fst_ok x (fun e e' z n => (sub z).e n) (by simpa only [trE] using h)
    | Attribute o y pos =>
      simp only [trE] at h
      split at h
      · rename_i hb
        obtain ⟨o', h1, rfl⟩ := Option.map_eq_some_iff.mp h
        exact fld_ok x hb (sub h1).e
      · cases h
    | Constant v i pos => exact const_ok x (by simpa only [trE] using h)
    | BinOp a op b pos =>
      simp only [trE] at h
      split at h
      · rename_i o ho
        split at h
        · rename_i ha
          rw [Bool.and_eq_true] at ha
          obtain ⟨a', b', h1, h2, rfl⟩ := op2_some h
          cases op <;> first | (cases ha.1; done) | skip
          exact Ok.plain x.K rfl (fun _ => rfl) fun n => se_cat ((sub h1).e n) ((sub h2).e n)
        obtain ⟨a', b', h1, h2, rfl⟩ := op2_some h
        exact Ok.plain x.K rfl (fun _ => rfl) fun n => se_bin x.K ho ((sub h1).e n) ((sub h2).e n)
      · cases h
    | UnaryOp op a pos =>
      cases op with
      | USub =>
        simp only [trE] at h
        obtain ⟨a', h1, rfl⟩ := Option.map_eq_some_iff.mp (show (trE c m sc a).map .neg = some e' from h)
        exact Ok.plain x.K rfl (fun _ => rfl) fun n => se_neg ((sub h1).e n)
      | Not =>
        simp only [trE] at h
        obtain ⟨a', h1, rfl⟩ := Option.map_eq_some_iff.mp (show (trE c m sc a).map .not = some e' from h)
        exact Ok.mk fun n => ⟨se_not x.K ((sub h1).e n), fun ⟨q, ht⟩ => ⟨st_not ((sub h1).t (q := q - 1) (by cases q with | zero => cases ht | succ q => exact ht) n), fun ⟨o, vs, p, z⟩ => by cases z⟩⟩
      | _ => simp [trE] at h
    | BoolOp op vs pos =>
      cases vs with
      | nil => cases op <;> simp [trE] at h
      | cons a r =>
        cases r with
        | nil =>
          have h1 : trE c m sc a = some e' := by simpa only [trE] using h
          intro n
          refine ⟨pe_one ((sub h1).e n), fun ht => ?_⟩
          obtain ⟨q, ht⟩ := ht
          have ht2 : tst (q - 1) a = true := by
            cases q with
            | zero => cases ht
            | succ q =>
              have : ([a] : List Expr).all (tst q) = true := ht
              simpa using this
          cases op with
          | And => exact ⟨(pw_and1 ((sub h1).t ht2 n)).pt, fun _ => pw_and1 ((sub h1).t ht2 n)⟩
          | Or => exact ⟨(pw_or1 ((sub h1).t ht2 n)).pt, fun _ => pw_or1 ((sub h1).t ht2 n)⟩
        | cons b r =>
          have htl : (∃ q, tst q (.BoolOp op (a :: b :: r) pos) = true) → (∃ q, tst q a = true) ∧ ∃ q, tst q (.BoolOp op (b :: r) pos) = true := fun ⟨q, ht⟩ => by
            cases q with
            | zero => cases ht
            | succ q =>
              have h0 : (a :: b :: r).all (tst q) = true := ht
              rw [List.all_cons, Bool.and_eq_true] at h0
              exact ⟨⟨q, h0.1⟩, q + 1, h0.2⟩
          cases op with
          | And =>
            simp only [trE] at h
            obtain ⟨a', b', h1, h2, rfl⟩ := op2_some h
            exact Ok.mk fun n => ⟨se_and x.K ((sub h1).e n) ((sub h2).e n), fun ht => (fun q => ⟨q.pt, fun _ => q⟩) (st_and ((sub h1).t (htl ht).1.choose_spec n) (((sub h2) n).2 (htl ht).2 |>.2 ⟨_, _, _, rfl⟩))⟩
          | Or =>
            simp only [trE] at h
            obtain ⟨a', b', h1, h2, rfl⟩ := op2_some h
            exact Ok.mk fun n => ⟨se_or x.K ((sub h1).e n) ((sub h2).e n), fun ht => (fun q => ⟨q.pt, fun _ => q⟩) (st_or ((sub h1).t (htl ht).1.choose_spec n) (((sub h2) n).2 (htl ht).2 |>.2 ⟨_, _, _, rfl⟩))⟩
    | Compare a ops bs pos =>
      match ops, bs, h with
      | [o], [b], h =>
        simp only [trE] at h
        split at h
        · cases h
        · rename_i hm
          obtain ⟨a', b', h1, h2, rfl⟩ := op2_some h
          exact Ok.mk fun n => ⟨se_cmp x.K x.un1 (by simpa using hm) ((sub h1).e n) ((sub h2).e n), fun _ => ⟨st_cmp x.K x.un1 (by simpa using hm) ((sub h1).e n) ((sub h2).e n), fun ⟨o, vs, p, z⟩ => by cases z⟩⟩
      | [o, o'], [b, d], h =>
        simp only [trE] at h
        split at h
        · cases h
        · rename_i hm
          obtain ⟨a', b', d', h1, h2, h3, rfl⟩ := op3_some h
          exact Ok.mk fun n => ⟨se_chain x.K x.un1 (by simpa using hm) ((sub h1).e n) ((sub h2).e n) ((sub h3).e n), fun _ => ⟨st_chain x.K x.un1 (by simpa using hm) ((sub h1).e n) ((sub h2).e n) ((sub h3).e n), fun ⟨o, vs, p, z⟩ => by cases z⟩⟩
      | [], _, h => simp [trE] at h
      | [_], [], h => simp [trE] at h
      | [_], _ :: _ :: _, h => simp [trE] at h
      | [_, _], [], h => simp [trE] at h
      | [_, _], [_], h => simp [trE] at h
      | [_, _], _ :: _ :: _ :: _, h => simp [trE] at h
      | _ :: _ :: _ :: _, _, h => simp [trE] at h
    | IfExp t a b pos =>
      simp only [trE] at h
      split at h
      · rename_i ht
        obtain ⟨t', a', b', h1, h2, h3, rfl⟩ := op3_some h
        exact Ok.mk fun n => ⟨se_ite ((sub h1).t ht n) ((sub h2).e n) ((sub h3).e n), fun ⟨q, z⟩ => by cases q <;> cases z⟩
      · cases h
    | Tuple es kt pos =>
      simp only [trE] at h
      split at h
      · rename_i hs
        obtain ⟨es', h1, rfl⟩ := Option.map_eq_some_iff.mp h
        exact Ok.plain x.K rfl (fun _ => rfl) fun n => se_tup (pa_ok hs (fun e e' z => (sub z).e n) h1)
      · obtain ⟨es', h1, rfl⟩ := star_ok x h
        exact Ok.plain x.K rfl (fun _ => rfl) fun n => se_starT (sp_ok x.K (fun e e' z => (sub z).e n) h1)
    | List es pos =>
      simp only [trE] at h
      split at h
      · rename_i hs
        split at h
        · obtain ⟨es', h1, rfl⟩ := Option.map_eq_some_iff.mp h
          exact Ok.plain x.K rfl (fun _ => rfl) fun n => se_lms (pa_ok hs (fun e e' z => (sub z).e n) h1)
        · obtain ⟨es', h1, rfl⟩ := Option.map_eq_some_iff.mp h
          exact Ok.plain x.K rfl (fun _ => rfl) fun n => se_lst (pa_ok hs (fun e e' z => (sub z).e n) h1)
      · split at h
        · cases h
        · obtain ⟨es', h1, rfl⟩ := star_ok x h
          exact Ok.plain x.K rfl (fun _ => rfl) fun n => se_starL (sp_ok x.K (fun e e' z => (sub z).e n) h1)
    | Call fe args kws pos =>
      match fe, kws, h with
      | .Name y p, [], h => exact call_ok x (fun e e' z n => (sub z).e n) (by simpa only [trE] using h)
      | .Name _ _, _ :: _, h => simp [trE] at h
      | .BoolOp .., _, h => simp [trE] at h
      | .NamedExpr .., _, h => simp [trE] at h
      | .BinOp .., _, h => simp [trE] at h
      | .UnaryOp .., _, h => simp [trE] at h
      | .Lambda .., _, h => simp [trE] at h
      | .IfExp .., _, h => simp [trE] at h
      | .Dict .., _, h => simp [trE] at h
      | .Set .., _, h => simp [trE] at h
      | .ListComp .., _, h => simp [trE] at h
      | .SetComp .., _, h => simp [trE] at h
      | .DictComp .., _, h => simp [trE] at h
      | .GeneratorExp .., _, h => simp [trE] at h
      | .Await .., _, h => simp [trE] at h
      | .Yield .., _, h => simp [trE] at h
      | .YieldFrom .., _, h => simp [trE] at h
      | .Compare .., _, h => simp [trE] at h
      | .Call .., _, h => simp [trE] at h
      | .FormattedValue .., _, h => simp [trE] at h
      | .JoinedStr .., _, h => simp [trE] at h
      | .Constant .., _, h => simp [trE] at h
      | .Attribute o y ap, [], h => exact meth_ok x (fun e e' z n => (sub z).e n) (by simpa only [trE] using h)
      | .Attribute _ _ _, _ :: _, h => simp [trE] at h
      | .Subscript .., _, h => simp [trE] at h
      | .Starred .., _, h => simp [trE] at h
      | .List .., _, h => simp [trE] at h
      | .Tuple .., _, h => simp [trE] at h
      | .Slice .., _, h => simp [trE] at h
    | Subscript a i pos => exact sub_ok x (fun e e' z n => (sub z).e n) (by simpa only [trE] using h)
    | ListComp el gens scope p =>
      match gens, h with
      | [⟨tg, it, ifs, 0⟩], h =>
        cases hw : isWd el it && !c.blk with
        | true => exact lcR_ok ih x hw h
        | false =>
        obtain ⟨own, ow, tg', kk, es, cond, el', tt, rfl, q⟩ := lc_ok ih x hw h
        refine Ok.plain x.K rfl (fun _ => rfl) fun n => ?_
        obtain ⟨q1, q2, q3, q4, q5, q6, q7⟩ := q n
        exact PE.imp (pe_lc x.calm x.nd q1 q2 q4 q5 q6 q3) q7
      | [], h => simp [trE] at h
      | [⟨tg, it, ifs, .ofNat (i + 1)⟩], h => cases (show (none : Option E) = some e' from h)
      | [⟨tg, it, ifs, .negSucc i⟩], h => simp [trE] at h
      | _ :: _ :: _, h => simp [trE] at h
    | _ => simp [trE] at h
end
end Mn
/-! Mn16: statements: their translation. -/
namespace Mn
open L2 PyProof.Rows PySem.Spec PySem
theorem kind_of {env : Env} (hk : env.scope.kind = .function) : env.blockKind = .function := by
  unfold Env.blockKind
  rw [hk]
  rfl
theorem lcsw {elt : Expr} {gs : List Comprehension} {scope : Scope} {pos py : Pos} {y : Str} {l : Nat} {env : Env} : swapsWith (.ListComp elt gs scope pos) (some (.Name y py)) l env =
    pure (env.blockKind == .function && env.kindOf y == some .local && py.line == pos.line && !(scope.names.any fun (n, k) => n == y && (k == .local || k == .cell))) := rfl
def notBoth (vs : List Expr) : Bool := !(vs.all (foldedForSure 8)) && !(vs.all (constantsAlone 8))
theorem sw2_ok {env : Env} {x y : Str} {px py pt pt2 : Pos} {kt k2 : Nat} {a b : Expr} (hk : env.blockKind = .function) (hx : env.kindOf x = some .local) (hy : env.kindOf y = some .local) (hl : (py.line == px.line) = true) (hne : (x == y) = false)
    (ha : noStar a = true) (hb : noStar b = true) (hf : notBoth [a, b] = true) : swappedStores [.Tuple [.Name x px, .Name y py] kt pt] (.Tuple [a, b] k2 pt2) env = pure (some [x, y]) := by
  unfold notBoth at hf
  rw [Bool.and_eq_true, Bool.not_eq_true', Bool.not_eq_true'] at hf
  have hne' : ¬ x = y := by simpa using hne
  have hl' : py.line = px.line := by simpa using hl
  have hyx : (y == x) = false := by simpa using Ne.symm hne'
  unfold swappedStores
  simp only [hf.1, hf.2, hk]
  simp [List.filterMap_cons, hx, hy, hl', List.eraseDups, List.eraseDupsBy, List.eraseDupsBy.loop, hf.1, hf.2, Ne.symm hne', Expr.pos, hyx]
  intro z
  exfalso
  rcases z with z | z
  · cases a <;> first | (cases z; done) | (cases ha; done)
  · cases b <;> first | (cases z; done) | (cases hb; done)
theorem sw3_ok {env : Env} {x y z : Str} {px py pz pt pt2 : Pos} {kt k2 : Nat} {a b d : Expr} (hk : env.blockKind = .function) (hx : env.kindOf x = some .local) (hy : env.kindOf y = some .local) (hz : env.kindOf z = some .local) (hl : (py.line == px.line) = true) (hl2 : (pz.line == px.line) = true)
    (hne : (x == y) = false) (hne2 : (x == z) = false) (hne3 : (y == z) = false)
    (ha : noStar a = true) (hb : noStar b = true) (hd : noStar d = true) (hf : notBoth [a, b, d] = true) : swappedStores [.Tuple [.Name x px, .Name y py, .Name z pz] kt pt] (.Tuple [a, b, d] k2 pt2) env = pure (some [x, y, z]) := by
  unfold notBoth at hf
  rw [Bool.and_eq_true, Bool.not_eq_true', Bool.not_eq_true'] at hf
  have h1 : ¬ x = y := by simpa using hne
  have h2 : ¬ x = z := by simpa using hne2
  have h3 : ¬ y = z := by simpa using hne3
  have hl' : py.line = px.line := by simpa using hl
  have hl2' : pz.line = px.line := by simpa using hl2
  unfold swappedStores
  simp only [hf.1, hf.2, hk]
  have q1 : (y == x) = false := by simpa using Ne.symm h1
  have q2 : (z == x) = false := by simpa using Ne.symm h2
  have q3 : (z == y) = false := by simpa using Ne.symm h3
  simp [List.filterMap_cons, hx, hy, hz, hl', hl2', List.eraseDups, List.eraseDupsBy, List.eraseDupsBy.loop, hf.1, hf.2, Ne.symm h1, Ne.symm h2, Ne.symm h3, Expr.pos, q1, q2, q3]
  intro z
  exfalso
  rcases z with z | z | z
  · cases a <;> first | (cases z; done) | (cases ha; done)
  · cases b <;> first | (cases z; done) | (cases hb; done)
  · cases d <;> first | (cases z; done) | (cases hd; done)
theorem unp_any {ts : List Expr} {kt : Nat} {pt : Pos} {e : Expr} (h : isTup e = false) (env : Env) : swappedStores [.Tuple ts kt pt] e env = pure none := by
  cases e <;> first | rfl | cases h
theorem unp_len {ts vs : List Expr} {kt k2 : Nat} {pt pt2 : Pos} (h : (ts.length == 2 || ts.length == 3) = false) (env : Env) : swappedStores [.Tuple ts kt pt] (.Tuple vs k2 pt2) env = pure none := by
  unfold swappedStores
  simp only [h]
  rfl
theorem unp_fold {ts vs : List Expr} {kt k2 : Nat} {pt pt2 : Pos} (h : vs.all (foldedForSure 8) = true) (env : Env) : swappedStores [.Tuple ts kt pt] (.Tuple vs k2 pt2) env = pure none := by
  unfold swappedStores
  simp only [h]
  split
  · rfl
  · split
    · rfl
    · split
      · rfl
      · rfl
theorem fm_lt {α β : Type} {f : α → Option β} : ∀ {l : List α}, (∃ a ∈ l, f a = none) → (l.filterMap f).length < l.length
  | [], ⟨_, h, _⟩ => by cases h
  | a :: l, ⟨b, hb, e⟩ => by
    have le : (l.filterMap f).length ≤ l.length := List.length_filterMap_le f l
    rw [List.filterMap_cons]
    rcases List.mem_cons.mp hb with rfl | hb
    · rw [e]
      exact Nat.lt_succ_of_le le
    · have ih := fm_lt ⟨b, hb, e⟩
      split
      · exact Nat.lt_succ_of_lt ih
      · exact Nat.succ_lt_succ ih
theorem unp_cell {ts vs : List Expr} {kt k2 : Nat} {pt pt2 : Pos} {env : Env} {id : Str} {pos : Pos} (h : Expr.Name id pos ∈ ts) (hk : (env.kindOf id == some .local) = false) : swappedStores [.Tuple ts kt pt] (.Tuple vs k2 pt2) env = pure none := by
  unfold swappedStores
  dsimp only
  split
  · rfl
  · split
    · rfl
    · have lt : (ts.filterMap fun
          | .Name id pos => if env.kindOf id == some .local && pos.line == (ts.head?.map (·.pos.line)).getD 0 then some id else none
          | _ => none).length < ts.length := fm_lt ⟨_, h, by dsimp only; rw [hk]; rfl⟩
      rw [if_pos]
      rw [Bool.or_eq_true]
      left
      rw [bne_iff_ne]
      exact Nat.ne_of_lt lt
theorem sole_tup {ts : List Expr} {kt l : Nat} {pt : Pos} {e : Expr} {env : Env} : swapsWithSole [.Tuple ts kt pt] e l env = pure false := by
  cases e <;> rfl
theorem sole_sub {o i : Expr} {l : Nat} {pt : Pos} {e : Expr} {env : Env} : swapsWithSole [.Subscript o i pt] e l env = pure false := by
  cases e <;> rfl

/-! ### the translation -/
/-- a walk of lambdas that is laid in a name: not served -/
def dirWd (c : Cf) : Expr → Bool
  | .ListComp el [⟨_, it, _, 0⟩] _ _ => isWd el it && !c.blk
  | _ => false
def trSet (c : Cf) (sc : Scope) (fb : Str → Bool) (f : Expr → Option E) (x : Str) (e : Expr) : Option C :=
  if isTg sc fb x && !dirWd c e then (match ixOf x c.N, f e with
    | some i, some e' => some (.set i e')
    | _, _ => none) else none
def trUnp (c : Cf) (sc : Scope) (fb : Str → Bool) (f : Expr → Option E) (tg e : Expr) : Option C := match trG c sc fb 20 tg, f e with
  | some t, some e' => some (.unp t e')
  | _, _ => none
/-- a tuple of constants alone -/
def allFold : Expr → Bool
  | .Tuple vs _ _ => vs.all (foldedForSure 8)
  | _ => false
def trTup (c : Cf) (sc : Scope) (fb : Str → Bool) (f : Expr → Option E) (ts : List Expr) (kt : Nat) (pt : Pos) (e : Expr) : Option C :=
  if allFold e then trUnp c sc fb f (.Tuple ts kt pt) e else if isTup e then (match ts, e with
    | [.Name x px, .Name y py], .Tuple [a, b] _ _ => if isLoc sc x && isLoc sc y && (py.line == px.line) && !(x == y) && noStar a && noStar b && notBoth [a, b] then (match ixOf x c.N, ixOf y c.N, trL f [a, b] with
      | some i, some j, some es => if i == j then none else some (.setT [i, j] es)
      | _, _, _ => none) else if isLoc sc x && isLoc sc y then none else trUnp c sc fb f (.Tuple ts kt pt) e
    | [.Name x px, .Name y py, .Name z pz], .Tuple [a, b, d] _ _ => if isLoc sc x && isLoc sc y && isLoc sc z && (py.line == px.line) && (pz.line == px.line) && !(x == y) && !(x == z) && !(y == z) && noStar a && noStar b && noStar d && notBoth [a, b, d] then (match ixOf x c.N, ixOf y c.N, ixOf z c.N, trL f [a, b, d] with
      | some i, some j, some l, some es => if i == j || i == l || j == l then none else some (.setT [i, j, l] es)
      | _, _, _, _ => none) else if isLoc sc x && isLoc sc y && isLoc sc z then none else trUnp c sc fb f (.Tuple ts kt pt) e
    | ts, .Tuple _ _ _ => if ts.length == 2 || ts.length == 3 then none else trUnp c sc fb f (.Tuple ts kt pt) e
    | _, _ => none)
  else trUnp c sc fb f (.Tuple ts kt pt) e
def trIx (f : Expr → Option E) (o i e : Expr) : Option C := if noSlice i then (match f o, f i, f e with
  | some o, some i, some e => some (.setIx o i e)
  | _, _, _ => none) else none
def trAsg (c : Cf) (sc : Scope) (fb : Str → Bool) (f : Expr → Option E) : List Expr → Expr → Option C
  | [.Name x _], e => trSet c sc fb f x e
  | [.Tuple ts kt pt], e => trTup c sc fb f ts kt pt e
  | [.Subscript o i _], e => trIx f o i e
  | _, _ => none
def trApp (f : Expr → Option E) (o e : Expr) (ap cp : Pos) : Option C := if noCall o && noStar e && (ap.endLine == cp.line) then (match f o, f e with
  | some o, some e => some (.app o e)
  | _, _ => none) else none
def appN : Str := "append"
def trEx (f : Expr → Option E) : Expr → Option C
  | .Constant (.str _) _ _ => some .pass
  | .Call (.Attribute o x ap) [e] [] cp => if x == appN then trApp f o e ap cp else none
  | e => if isComp e then none else (f e).map .expr
def gC : Option C → C
  | some x => x
  | none => .bad
def reprN : Str := "repr"
/-- a clause that hands something back -/
def trH1 (c : Cf) (sc : Scope) : ExceptHandler → Option (Nat × Hd)
  | .ExceptHandler (some (.Name y _)) none [.Return (some (.Constant v _ _)) _] _ => if isGl sc y && okN y then (match c.exn y, kP v with
    | some ci, some p => some (ci, .ret p)
    | _, _ => none) else none
  | .ExceptHandler (some (.Name y _)) (some n) [.Return (some (.BinOp (.Constant (.str t) _ _) .Add (.Call (.Name r _) [.Attribute (.Name n2 _) f _] [] _) _)) _] _ =>
    if isGl sc y && okN y && (n == n2) && (r == reprN) && isGl sc reprN && c.free reprN && isLoc sc n && okN n then (match c.exn y, ixOf n c.N with
    | some ci, some i => some (ci, .rep i t f)
    | _, _ => none) else none
  | _ => none
def trHs (c : Cf) (sc : Scope) : List ExceptHandler → Option (List (Nat × Hd))
  | [] => some []
  | h :: r => match trH1 c sc h, trHs c sc r with
    | some a, some b => some (a :: b)
    | _, _ => none
def trS (c : Cf) (sc : Scope) (fb : Str → Bool) (f : Expr → Option E) : Nat → Stmt → C
  | 0, _ => .bad
  | m + 1, st => match st with
    | .Assign ts e _ => gC (trAsg c sc fb f ts e)
    | .Expr e _ => gC (trEx f e)
    | .Return none _ => .retN
    | .Return (some e) _ => gC ((f e).map .ret)
    | .Pass _ => .pass
    | .Break _ => .brk
    | .Continue _ => .cont
    | .If t a b _ => if tst 40 t then (match f t with
      | some t' => .ite t' (a.map (trS c sc fb f m)) (b.map (trS c sc fb f m))
      | none => .bad) else .bad
    | .While t a [] _ => if tst 40 t then (match f t with
      | some t' => .wh t' (a.map (trS c sc fb f m))
      | none => .bad) else .bad
    | .For tg it a [] _ => (match trG c sc fb 20 tg, trI c sc f tg it with
      | some tg', some (kk, es) => .fo tg' kk es (a.map (trS c sc fb f m))
      | _, _ => .bad)
    | .Raise (some (.Call (.Name y _) [e] [] _)) none _ => if isGl sc y && okN y && noStar e then (match c.exn y, f e with
      | some ci, some e' => .raise ci e'
      | _, _ => .bad) else .bad
    | .Try b (h :: hs) [] [] _ => (match trHs c sc (h :: hs) with
      | some hs' => .tr (b.map (trS c sc fb f m)) hs'
      | none => .bad)
    | _ => .bad
def fuE : Nat := 60
def trB (c : Cf) (sc : Scope) (fb : Str → Bool) (b : List Stmt) : List C := b.map (trS c sc fb (trE c fuE sc) 40)
section
variable {k : Ka} {cal : Nat → List D → Sto → R D} {c : Cf} {sc : Scope} {fb : Str → Bool} {j : Nat} {W : WX} {X : Cx} {G : Prog}
theorem isLoc_of (x : XC k G cal c sc fb j W X) {y : Str} (h : isLoc sc y = true) : X.env.scope.names.lookup y = some .local := by
  rw [x.sc]
  unfold isLoc at h
  split at h
  · assumption
  · cases h
theorem isLoc_in (x : XC k G cal c sc fb j W X) {y : Str} (h : X.env.scope.names.lookup y = some .local) : isLoc sc y = true := by
  rw [x.sc] at h
  unfold isLoc
  rw [h]
theorem isTg_of (x : XC k G cal c sc fb j W X) {y : Str} (h : isTg sc fb y = true) : L2.Loc X.env.scope y ∧ (X.fn y = true ∨ X.env.scope.names.lookup y = some .local) := by
  rw [x.sc]
  unfold isTg at h
  split at h
  · exact ⟨.inl (by assumption), .inr (by assumption)⟩
  · exact ⟨.inr (by assumption), .inl (x.fb y h)⟩
  · cases h
def SOk (k : Ka) (W : WX) (G : Prog) (cal : Nat → List D → Sto → R D) (X : Cx) (st : Stmt) (c' : C) : Prop := ∀ n, PS X st (rdS k W (evC (ev G cal k.fr n) (rsF G k.fr) G.su c'))
theorem SOk.bad {st : Stmt} : SOk k W G cal X st .bad := fun n => ss_bad
theorem SOk.g {st : Stmt} {o : Option C} (h : ∀ c', o = some c' → SOk k W G cal X st c') : SOk k W G cal X st (gC o) := by
  cases o with
  | none => exact SOk.bad
  | some c' => exact h c' rfl
theorem fun_of (x : XC k G cal c sc fb j W X) (hf : sc.kind = .function) : X.env.scope.kind = .function := by
  rw [x.sc]
  exact hf
theorem trSet_ok (x : XC k G cal c sc fb j W X) {m : Nat} {y : Str} {p pos : Pos} {e : Expr} {c' : C} (h : trSet c sc fb (trE c m sc) y e = some c') : SOk k W G cal X (.Assign [.Name y p] e pos) c' := by
  unfold trSet at h
  split at h
  · rename_i ht
    rw [Bool.and_eq_true, Bool.not_eq_true'] at ht
    obtain ⟨ht, hwd⟩ := ht
    obtain ⟨h1, h2⟩ := isTg_of x ht
    split at h
    · rename_i i e' hi he
      cases h
      have hi : X.N[i]? = some y := by rw [x.N]; exact ixOf_ok hi
      intro n
      have pe := (trE_ok (G := G) m k c sc fb e e' W X x he).e n
      by_cases hc : isComp e = false
      · exact ss_set x.nd hi h1 h2 (sw_no hc _ _ _) pe
      · cases e <;> first | (exact (hc rfl).elim) | skip
        all_goals (cases m with | zero => simp [trE] at he | succ m => ?_)
        · rename_i el gens scope p2
          cases hb : (X.env.blockKind == .function && X.env.kindOf y == some .local && p.line == p2.line && !(scope.names.any fun (n, k) => n == y && (k == .local || k == .cell))) with
          | false => exact ss_set x.nd hi h1 h2 (by rw [lcsw, hb]) pe
          | true =>
            match gens, he, pe, hwd with
            | [⟨tg, it, ifs, 0⟩], he, pe, hwd =>
              have hyl : X.env.scope.names.lookup y = some .local := by
                simp only [Bool.and_eq_true] at hb
                exact eq_of_beq hb.1.1.2
              cases n with
              | zero =>
                exact ⟨fun pins s σ H Dn I q => by
                  obtain ⟨g, L, S, rl, rs, b⟩ := q
                  exact b.elim⟩
              | succ n =>
                obtain ⟨own, ow, tg', kk, es, cond, el', tt, rfl, q⟩ := lc_ok (trE_ok m) x hwd he
                obtain ⟨q1, q2, q3, q4, q5, q6, q7⟩ := q n
                exact PS.imp (ps_setLc x.calm x.nd hi hyl (by rw [lcsw, hb]) q1 q2 q4 q5 q6 q3) fun Dn σ H r => q7 σ H _ (set_in r)
            | [], he, _, _ => simp [trE] at he
            | [⟨tg, it, ifs, .ofNat (i + 1)⟩], he, _, _ => cases (show (none : Option E) = some e' from he)
            | [⟨tg, it, ifs, .negSucc i⟩], he, _, _ => simp [trE] at he
            | _ :: _ :: _, he, _, _ => simp [trE] at he
        · simp [trE] at he
        · simp [trE] at he
    · cases h
  · cases h
theorem trUnp_ok (x : XC k G cal c sc fb j W X) {m : Nat} {ts : List Expr} {kt : Nat} {pt pos : Pos} {e : Expr} {c' : C} (hw : swappedStores [.Tuple ts kt pt] e X.env = pure none) (h : trUnp c sc fb (trE c m sc) (.Tuple ts kt pt) e = some c') :
    SOk k W G cal X (.Assign [.Tuple ts kt pt] e pos) c' := by
  unfold trUnp at h
  split at h
  · rename_i t e' h1 h2
    cases h
    exact fun n => ss_unp sole_tup hw rfl ((trE_ok m k c sc fb e e' W X x h2).e n) (trG_ok x h1)
  · cases h
theorem ix_ne {N : List Str} {x y : Str} {i j : Nat} (hi : N[i]? = some x) (hj : N[j]? = some y) (h : (x == y) = false) : i ≠ j := fun e => by
  subst e
  rw [hi] at hj
  cases hj
  simp at h
theorem trTup_ok (x : XC k G cal c sc fb j W X) (hfn : sc.kind = .function) {m : Nat} {ts : List Expr} {kt : Nat} {pt pos : Pos} {e : Expr} {c' : C} (h : trTup c sc fb (trE c m sc) ts kt pt e = some c') : SOk k W G cal X (.Assign [.Tuple ts kt pt] e pos) c' := by
  have hk := kind_of (fun_of x hfn)
  unfold trTup at h
  split at h
  · rename_i hf
    unfold allFold at hf
    split at hf
    · exact trUnp_ok x (unp_fold hf _) h
    · cases hf
  split at h
  · split at h
    · rename_i y py z pz a b _ _
      split at h
      · rename_i h0
        simp only [Bool.and_eq_true, Bool.not_eq_true'] at h0
        obtain ⟨⟨⟨⟨⟨⟨l1, l2⟩, ln⟩, ne⟩, sa⟩, sb⟩, nb⟩ := h0
        split at h
        · rename_i i j es hi hj h3
          split at h
          · cases h
          · rename_i hij
            cases h
            have hi := ixOf_ok hi
            have hj := ixOf_ok hj
            rw [← x.N] at hi hj
            exact fun n => ss_par x.calm x.nd hi hj (by simpa using hij) (isLoc_of x l1) (isLoc_of x l2) (pa_ok (by simp [sa, sb]) (fun e e' q => (trE_ok (G := G) m k c sc fb e e' W X x q).e n) h3)
              (sw2_ok hk (isLoc_of x l1) (isLoc_of x l2) ln ne sa sb nb)
        · cases h
      · split at h
        · cases h
        · rename_i hn
          rw [Bool.and_eq_true] at hn
          have nl : ∀ {y : Str}, ¬ isLoc sc y = true → (X.env.kindOf y == some .local) = false := fun {y} z => by
            cases q : (X.env.kindOf y == some .local) with
            | false => rfl
            | true => exact absurd (isLoc_in x (eq_of_beq q)) z
          rcases Classical.not_and_iff_not_or_not.mp hn with h1 | h1
          · exact trUnp_ok x (unp_cell List.mem_cons_self (nl h1)) h
          · exact trUnp_ok x (unp_cell (List.mem_cons_of_mem _ List.mem_cons_self) (nl h1)) h
    · rename_i y py z pz u pu a b d _ _
      split at h
      · rename_i h0
        simp only [Bool.and_eq_true, Bool.not_eq_true'] at h0
        obtain ⟨⟨⟨⟨⟨⟨⟨⟨⟨⟨⟨l1, l2⟩, l3⟩, ln⟩, ln2⟩, ne⟩, ne2⟩, ne3⟩, sa⟩, sb⟩, sd⟩, nb⟩ := h0
        split at h
        · rename_i i j l es hi hj hl h3
          split at h
          · cases h
          · rename_i hij
            cases h
            have hi := ixOf_ok hi
            have hj := ixOf_ok hj
            rw [← x.N] at hi hj
            have hl := ixOf_ok hl
            rw [← x.N] at hl
            exact fun n => ss_par3 x.calm x.nd hi hj hl (ix_ne hi hj ne) (ix_ne hi hl ne2) (ix_ne hj hl ne3) (isLoc_of x l1) (isLoc_of x l2) (isLoc_of x l3) (pa_ok (by simp [sa, sb, sd]) (fun e e' q => (trE_ok (G := G) m k c sc fb e e' W X x q).e n) h3)
              (sw3_ok hk (isLoc_of x l1) (isLoc_of x l2) (isLoc_of x l3) ln ln2 ne ne2 ne3 sa sb sd nb)
        · cases h
      · split at h
        · cases h
        · rename_i hn
          rw [Bool.and_eq_true, Bool.and_eq_true] at hn
          have nl : ∀ {y : Str}, ¬ isLoc sc y = true → (X.env.kindOf y == some .local) = false := fun {y} z => by
            cases q : (X.env.kindOf y == some .local) with
            | false => rfl
            | true => exact absurd (isLoc_in x (eq_of_beq q)) z
          rcases Classical.not_and_iff_not_or_not.mp hn with h1 | h1
          · rcases Classical.not_and_iff_not_or_not.mp h1 with h1 | h1
            · exact trUnp_ok x (unp_cell List.mem_cons_self (nl h1)) h
            · exact trUnp_ok x (unp_cell (List.mem_cons_of_mem _ List.mem_cons_self) (nl h1)) h
          · exact trUnp_ok x (unp_cell (List.mem_cons_of_mem _ (List.mem_cons_of_mem _ List.mem_cons_self)) (nl h1)) h
    · split at h
      · cases h
      · rename_i hl
        exact trUnp_ok x (unp_len (by simpa using hl) _) h
    · cases h
  · rename_i ht
    exact trUnp_ok x (unp_any (by simpa using ht) _) h
theorem trIx_ok (x : XC k G cal c sc fb j W X) {m : Nat} {o i e : Expr} {p pos : Pos} {c' : C} (h : trIx (trE c m sc) o i e = some c') : SOk k W G cal X (.Assign [.Subscript o i p] e pos) c' := by
  unfold trIx at h
  split at h
  · rename_i hs
    split at h
    · rename_i o' i' e' h1 h2 h3
      cases h
      exact fun n => ss_setIx hs sole_sub ((trE_ok m k c sc fb e e' W X x h3).e n) ((trE_ok m k c sc fb o o' W X x h1).e n) ((trE_ok m k c sc fb i i' W X x h2).e n)
    · cases h
  · cases h
theorem trAsg_ok (x : XC k G cal c sc fb j W X) (hfn : sc.kind = .function) {m : Nat} {ts : List Expr} {e : Expr} {pos : Pos} {c' : C} (h : trAsg c sc fb (trE c m sc) ts e = some c') : SOk k W G cal X (.Assign ts e pos) c' := by
  unfold trAsg at h
  split at h
  · exact trSet_ok x h
  · exact trTup_ok x hfn h
  · exact trIx_ok x h
  · cases h
theorem trEx_ok (x : XC k G cal c sc fb j W X) {m : Nat} {e : Expr} {pos : Pos} {c' : C} (h : trEx (trE c m sc) e = some c') : SOk k W G cal X (.Expr e pos) c' := by
  unfold trEx at h
  split at h
  · cases h
    exact fun n => ss_doc
  · split at h
    · rename_i hx
      obtain rfl := eq_of_beq hx
      unfold trApp at h
      split at h
      · rename_i h0
        simp only [Bool.and_eq_true] at h0
        split at h
        · rename_i o' e' h1 h2
          cases h
          exact fun n => ss_app x.K h0.1.1 h0.1.2 h0.2 ((trE_ok m k c sc fb _ o' W X x h1).e n) ((trE_ok m k c sc fb _ e' W X x h2).e n)
        · cases h
      · cases h
    · cases h
  · split at h
    · cases h
    · rename_i hc
      obtain ⟨e', h1, rfl⟩ := Option.map_eq_some_iff.mp h
      exact fun n => ss_expr (by simpa using hc) ((trE_ok m k c sc fb e e' W X x h1).e n)
theorem list_ok {f : Stmt → C} (h : ∀ st, SOk k W G cal X st (f st)) : ∀ (b : List Stmt) (n : Nat), PSs X b (rdS k W (evCs (ev G cal k.fr n) (rsF G k.fr) G.su (b.map f)))
  | [], n => ss_nil
  | st :: b, n => ss_cons (h st n) (list_ok h b n)
theorem list_c {f : Stmt → C} (h : ∀ st, SOk k W G cal X st (f st)) (b : List Stmt) (n : Nat) : PSs X b (rdS k W ((ev G cal k.fr n).c (b.map f))) := by
  cases n with
  | zero => exact ⟨fun pins s σ H Dn I q => by
      obtain ⟨g, L, S, rl, rs, b⟩ := q
      exact b.elim⟩
  | succ n => exact list_ok h b n
/-- .. for statements -/
structure XS (k : Ka) (G : Prog) (c : Cf) (X : Cx) : Prop where
  exn : ∀ y ci, c.exn y = some ci → ∃ C, ExF X.prog k.toKg X.mg G.rs y ci C
  su : SuOk k.toKg G.su
  st : X.stack = X.env :: X.outer
  ef : X.env.frame = some X.env.locals
theorem XC.tr (x : XC k G cal c sc fb j W X) {W' : WX} {pn : List (Addr × Obj)} {xe : Value → Shared → Prop} (tk : Takes (X.tr pn xe) W') : XC k G cal c sc fb j W' (X.tr pn xe) where
  K := x.K
  N := x.N
  nd := x.nd
  sc := x.sc
  fb := x.fb
  calm := x.calm
  rx := x.rx
  gu := x.gu
  tk := tk
  con := x.con
  fn := x.fn
  free := x.free
  jf := x.jf
  lo := x.lo
  kf := fun h => ⟨(x.kf h).h0, (x.kf h).H0, (x.kf h).ex, (x.kf h).fc⟩
  tb := x.tb
  q := x.q
  fo := x.fo
  lto := x.lto
  ltc := x.ltc
  cf := x.cf.of rfl rfl rfl rfl rfl
  cn := x.cn
  kbf := fun h => ⟨(x.kbf h).h0, (x.kbf h).H0, (x.kbf h).ex⟩
theorem XS.tr (x : XS k G c X) {pn : List (Addr × Obj)} {xe : Value → Shared → Prop} : XS k G c (X.tr pn xe) := ⟨x.exn, x.su, x.st, x.ef⟩
theorem trHs_ok (x : XC k G cal c sc fb j W X) (xs : XS k G c X) : ∀ {hds : List ExceptHandler} {hs : List (Nat × Hd)}, trHs c sc hds = some hs → HTr X k.toKg hds hs
  | [], hs, h => by
    cases h
    exact .nil
  | h0 :: r, hs, h => by
    unfold trHs at h
    split at h
    · rename_i a b h1 h2
      cases h
      have more := trHs_ok x xs h2
      have cls : ∀ {y : Str} {ci : Nat}, isGl sc y = true → okN y = true → c.exn y = some ci → ∃ C, ClsOf X k.toKg y ci C := by
        intro y ci g o e
        obtain ⟨C, F⟩ := xs.exn y ci e
        exact ⟨C, isGl_of x g, (okN_of o).1, F.at_, F.cl⟩
      unfold trH1 at h1
      split at h1
      · split at h1
        · rename_i h3
          rw [Bool.and_eq_true] at h3
          split at h1
          · rename_i ci p h4 h5
            cases h1
            obtain ⟨C, q⟩ := cls h3.1 h3.2 h4
            exact .ret q h5 more
          · cases h1
        · cases h1
      · split at h1
        · rename_i h3
          simp only [Bool.and_eq_true] at h3
          obtain ⟨⟨⟨⟨⟨⟨⟨g1, g2⟩, g3⟩, g4⟩, g5⟩, g6⟩, g7⟩, g8⟩ := h3
          split at h1
          · rename_i ci i h4 h5
            cases h1
            obtain ⟨C, q⟩ := cls g1 g2 h4
            obtain rfl := eq_of_beq g3
            obtain rfl := eq_of_beq g4
            obtain ⟨o1, o2⟩ := okN_of g8
            exact .rep q x.nd (by rw [x.N]; exact ixOf_ok h5) (isLoc_of x g7) o1 o2 (isGl_of x g5) (x.free _ g6) more
          · cases h1
        · cases h1
      · cases h1
    · cases h
theorem trS_ok (hfn : sc.kind = .function) {m : Nat} : ∀ (q : Nat) (st : Stmt) (W : WX) (X : Cx), XC k G cal c sc fb j W X → XS k G c X → PassesOwn (model X.prog X.w) X.A X.env X.xe → SOk k W G cal X st (trS c sc fb (trE c m sc) q st) := by
  intro q
  induction q with
  | zero => exact fun st W X _ _ _ => SOk.bad
  | succ q ih' =>
    intro st W X x xs hp
    have ih : ∀ st, SOk k W G cal X st (trS c sc fb (trE c m sc) q st) := fun st => ih' st W X x xs hp
    unfold trS
    split
    · exact SOk.g fun c' h => trAsg_ok x hfn h
    · exact SOk.g fun c' h => trEx_ok x h
    · exact fun n => ss_retN
    · refine SOk.g fun c' h => ?_
      obtain ⟨e', h1, rfl⟩ := Option.map_eq_some_iff.mp h
      exact fun n => ss_ret ((trE_ok m k c sc fb _ e' W X x h1).e n)
    · exact fun n => ss_pass
    · exact fun n => ss_brk
    · exact fun n => ss_cont
    · split
      · rename_i ht
        split
        · rename_i t' h1
          exact fun n => ss_ite ((trE_ok m k c sc fb _ t' W X x h1).t ht n) (list_c ih _ n) (list_c ih _ n)
        · exact SOk.bad
      · exact SOk.bad
    · split
      · rename_i ht
        split
        · rename_i t' h1
          exact fun n => ss_wh hp (fun n => (trE_ok m k c sc fb _ t' W X x h1).t ht n) (fun n => list_c ih _ n) n
        · exact SOk.bad
      · exact SOk.bad
    · split
      · rename_i tg' kk es h1 h2
        obtain ⟨i1, i2⟩ := trI_ok (G := G) x (fun e e' z n => (trE_ok m k c sc fb e e' W X x z).e n) h2
        exact fun n => ss_for hp x.calm (i1 n) (trG_ok x h1) (list_c ih _ n) (i2 X.env)
      · exact SOk.bad
    · split
      · rename_i h0
        simp only [Bool.and_eq_true] at h0
        split
        · rename_i ci e' h1 h2
          intro n
          unfold rsF
          by_cases hj : Nat.ble 2 k.fr = true
          · rw [if_pos hj]
            obtain ⟨C, F⟩ := xs.exn _ _ h1
            have h2j : 2 ≤ j := by rw [← x.jf]; exact Nat.le_of_ble_eq_true hj
            exact ss_raise (j := j - 2) x.K x.calm x.gu (by rw [Nat.sub_add_cancel h2j]; exact x.room) x.tk F (isGl_of x h0.1.1) (okN_of h0.1.2).1 h0.2 ((trE_ok m k c sc fb _ e' W X x h2).e n)
          · rw [if_neg hj]
            exact PS.imp ps_never fun Dn σ H h => by
              obtain ⟨g, L, S, rl, rs', b⟩ := h
              exact b
        · exact SOk.bad
      · exact SOk.bad
    · split
      · rename_i hs' h1
        exact fun n => ss_tr x.K x.gu x.un xs.su xs.st xs.ef x.tk (fun W' pn xe tk' hp' => list_c (fun st => ih' st W' _ (x.tr tk') xs.tr hp') _ n) (trHs_ok x xs h1)
      · exact SOk.bad
    · exact SOk.bad
end
end Mn
/-! Mr16: the attributes that an __init__ lays. -/
namespace Mn
open L2 PyProof.Rows PySem.Spec PySem
/-! ### the translation -/
def isSelf (c : Cf) (sc : Scope) : Expr → Option Str
  | .Attribute (.Name y _) f _ => if (c.N[0]? == some y) && isVis sc y && okN y then some f else none
  | _ => none
def selfs (c : Cf) (sc : Scope) : List Expr → Option (List Str)
  | [] => some []
  | t :: ts => match isSelf c sc t, selfs c sc ts with
    | some f, some fs => some (f :: fs)
    | _, _ => none
def trF1 (c : Cf) (sc : Scope) (f : Expr → Option E) : Stmt → Option (List Str × List E)
  | .Assign [.Tuple ts _ _] (.Tuple es _ _) _ => (match selfs c sc ts, trL f es with
    | some (g :: gs), some es' => if es.all noStar && ((g :: gs).length == es'.length) then some (g :: gs, es') else none
    | _, _ => none)
  | .Assign [t] e _ => (match isSelf c sc t, f e with
    | some g, some e' => some ([g], [e'])
    | _, _ => none)
  | _ => none
def trFs (c : Cf) (sc : Scope) (f : Expr → Option E) : List Stmt → Option (List (List Str × List E))
  | [] => some []
  | st :: r => match trF1 c sc f st, trFs c sc f r with
    | some a, some b => some (a :: b)
    | _, _ => none
def flN (fl : List (List Str × List E)) : List Str := (fl.map (·.1)).flatten
/-! ### names laid one behind the other -/
def putsF : List Str → List V → List (Str × V) → List (Str × V)
  | f :: gs, v :: vs, fs => putsF gs vs (putF f v fs)
  | _, _, fs => fs
theorem putF_new {f : Str} {v : V} : ∀ {ms : List Str} {ws : List V}, ms.length = ws.length → f ∉ ms → putF f v (ms.zip ws) = (ms ++ [f]).zip (ws ++ [v])
  | [], [], _, _ => rfl
  | m :: ms, w :: ws, h, n => by
    rw [List.zip_cons_cons]
    unfold putF
    rw [if_neg fun z => n (by simp [z]), putF_new (by simpa using h) fun z => n (List.mem_cons_of_mem _ z)]
    rfl
  | [], _ :: _, h, _ => by cases h
  | _ :: _, [], h, _ => by cases h
theorem putsF_new : ∀ {gs : List Str} {vs : List V} {ms : List Str} {ws : List V}, ms.length = ws.length → gs.length = vs.length → (ms ++ gs).Nodup → putsF gs vs (ms.zip ws) = (ms ++ gs).zip (ws ++ vs)
  | [], [], ms, ws, _, _, _ => by
    rw [List.append_nil, List.append_nil]
    rfl
  | f :: gs, v :: vs, ms, ws, h, h2, n => by
    unfold putsF
    have nf : f ∉ ms := fun z => by
      rw [List.nodup_append] at n
      exact n.2.2 f z f List.mem_cons_self rfl
    rw [putF_new h nf, putsF_new (by simp [h]) (by simpa using h2) (by rw [List.append_assoc]; exact n), List.append_assoc, List.append_assoc]
    rfl
  | [], _ :: _, _, _, _, h, _ => by cases h
  | _ :: _, [], _, _, _, h, _ => by cases h
theorem upd_self {H : Hp} {a : Addr} {o : HO} (h : H a = some o) : upd H a o = H := by
  funext b
  unfold upd
  split
  · rename_i e
    rw [e, h]
  · rfl
/-! ### the targets -/
section
variable {k : Ka} {cal : Nat → List D → Sto → R D} {c : Cf} {sc : Scope} {fb : Str → Bool} {j : Nat} {W : WX} {X : Cx} {G : Prog} {s : Ev}
def gSelf (K : PySem.W.Frag) (f : Str) : TG := fun v σ H Q => ∃ a dx C fs, σ[0]? = some (some (.ref a)) ∧ H a = some (.ins C dx fs) ∧ Cls K C ∧ NoAttr K C f ∧ fs.length < 1000 ∧ Q σ (upd H a (.ins C dx (putF f v fs)))
def gSelfs (K : PySem.W.Frag) (gs : List Str) : TGs := fun vs σ H Q => ∃ a dx C fs, σ[0]? = some (some (.ref a)) ∧ H a = some (.ins C dx fs) ∧ Cls K C ∧ (∀ f ∈ gs, NoAttr K C f) ∧ fs.length + gs.length < 1000 ∧ vs.length = gs.length ∧ Q σ (upd H a (.ins C dx (putsF gs vs fs)))
theorem pg_self (x : XC k G cal c sc fb j W X) {t : Expr} {f : Str} (h : isSelf c sc t = some f) : PG X t (gSelf X.K f) := by
  unfold isSelf at h
  split at h
  · rename_i y p g pos
    split at h
    · rename_i h0
      cases h
      simp only [Bool.and_eq_true] at h0
      obtain ⟨⟨h1, h2⟩, h3⟩ := h0
      have hi : X.N[0]? = some y := by rw [x.N]; exact eq_of_beq h1
      have hv : Vis X.env.scope y := by rw [x.sc]; exact isVis_of h2
      obtain ⟨o1, o2⟩ := okN_of h3
      refine ⟨fun pins s σ H v u Q I r h => ?_⟩
      obtain ⟨a, dx, C, fs, q1, q2, q3, q4, q5, q⟩ := h
      rw [arm_assign_Attribute]
      refine wpAny_bind (wpAny_holding (thn ((pe_var (pos := p) hi hv o1 o2).run pins s σ H (fun y H1 => y = .ref a ∧ H1 = H) I ⟨_, q1, rfl, rfl⟩) fun ov s1 ⟨z, H1, I1, r1, e1, e2⟩ => ?_))
      subst e1 e2
      cases r1
      refine wpAny_bind (wpAny_standAt (wpAny_bind (wpAny_holding (setattr_ok I1 q2 q3 q4 q5 r fun s3 I3 => ?_))))
      exact wpAny_release ⟨σ, _, I3, q⟩
    · cases h
  · cases h
theorem pgs_self (x : XC k G cal c sc fb j W X) : ∀ {ts : List Expr} {gs : List Str}, selfs c sc ts = some gs → PGs X ts (gSelfs X.K gs) ∧ ts.length = gs.length ∧ ts.all noStar = true
  | [], gs, h => by
    cases h
    refine ⟨PGs.imp pgs_nil fun vs σ H Q h => ?_, rfl, rfl⟩
    obtain ⟨a, dx, C, fs, q1, q2, q3, q4, q5, q6, q⟩ := h
    obtain rfl : vs = [] := List.length_eq_zero_iff.mp q6
    rw [show putsF [] [] fs = fs from rfl, upd_self q2] at q
    exact ⟨rfl, q⟩
  | t :: ts, gs, h => by
    unfold selfs at h
    split at h
    · rename_i f fs h1 h2
      cases h
      obtain ⟨i1, i2, i3⟩ := pgs_self x h2
      have ns : noStar t = true := by
        unfold isSelf at h1
        split at h1
        · rfl
        · cases h1
      refine ⟨PGs.imp (pgs_cons (pg_self x h1) i1 (by cases t <;> first | rfl | cases ns)) fun vs σ H Q h => ?_, congrArg (· + 1) i2, by rw [List.all_cons, ns, i3]; rfl⟩
      obtain ⟨a, dx, C, fs', q1, q2, q3, q4, q5, q6, q⟩ := h
      cases vs with
      | nil => cases q6
      | cons v vs =>
        have q6 : vs.length = fs.length := by simpa using q6
        have l1 := length_putF f v fs'
        have q5 : fs'.length + (fs.length + 1) < 1000 := q5
        refine ⟨v, vs, rfl, a, dx, C, fs', q1, q2, q3, q4 _ List.mem_cons_self, by omega, a, dx, C, putF f v fs', q1, upd_same, q3, fun g hg => q4 g (List.mem_cons_of_mem _ hg), by omega, q6, ?_⟩
        rw [upd_upd]
        exact q
    · cases h
theorem unp_att0 {ts vs : List Expr} {kt k2 : Nat} {pt pt2 : Pos} {env : Env} {o : Expr} {f : Str} {q : Pos} (h : Expr.Attribute o f q ∈ ts) : swappedStores [.Tuple ts kt pt] (.Tuple vs k2 pt2) env = pure none := by
  unfold swappedStores
  dsimp only
  split
  · rfl
  · split
    · rfl
    · have lt : (ts.filterMap fun
          | .Name id pos => if env.kindOf id == some .local && pos.line == (ts.head?.map (·.pos.line)).getD 0 then some id else none
          | _ => none).length < ts.length := fm_lt ⟨_, h, rfl⟩
      rw [if_pos]
      rw [Bool.or_eq_true]
      left
      rw [bne_iff_ne]
      exact Nat.ne_of_lt lt
theorem unp_attr {t : Expr} {ts vs : List Expr} {kt k2 : Nat} {pt pt2 : Pos} {env : Env} {f : Str} (h : isSelf c sc t = some f) : swappedStores [.Tuple (t :: ts) kt pt] (.Tuple vs k2 pt2) env = pure none := by
  unfold isSelf at h
  split at h
  · exact unp_att0 List.mem_cons_self
  · cases h
/-! ### the object under way -/
structure Un (k : Ka) (g0 : Gs) (H0 : Hp) (p C dx : Addr) (σ : Ls) (L : Loc) (rest : List Str) (g : Gs) (H : Hp) (S : Sto) (ms : List Str) (ws : List V) (qs : List P) : Prop where
  rl : RL k g H σ L
  me : L[0]? = some (some .me)
  km : k.me = some p
  sh : Sh k g0 H0 p g H S (.ins C dx (ms.zip ws))
  rp : RPs k.toKg g H ws qs
  ln : ms.length = qs.length
  nd : (ms ++ rest).Nodup
  lt : (ms ++ rest).length < 1000
section
variable {g0 g g1 : Gs} {H0 H H1 : Hp} {p C dx : Addr} {σ : Ls} {L : Loc} {rest ns : List Str} {S S1 : Sto} {ms : List Str} {ws vs : List V} {qs ps : List P}
theorem Un.slot (u : Un k g0 H0 p C dx σ L rest g H S ms ws qs) : σ[0]? = some (some (.ref p)) := by
  obtain ⟨v, h1, a, h2, h3⟩ := u.rl.2 0 _ u.me
  rw [u.km] at h2
  cases h2
  rw [h1, h3]
theorem Un.wl (u : Un k g0 H0 p C dx σ L rest g H S ms ws qs) : ms.length = ws.length := by rw [u.ln, u.rp.length]
theorem Un.step (u : Un k g0 H0 p C dx σ L rest g H S ms ws qs) (x : Ext g H g1 H1) (rs : RS k g1 H1 S1) : Un k g0 H0 p C dx σ L rest g1 H1 S1 ms ws qs :=
  ⟨u.rl.mono x, u.me, u.km, u.sh.step trivial x rs, u.rp.mono x, u.ln, u.nd, u.lt⟩
theorem Un.put (u : Un k g0 H0 p C dx σ L (ns ++ rest) g H S ms ws qs) (r : RPs k.toKg g H vs ps) (hl : ns.length = ps.length) : Un k g0 H0 p C dx σ L rest g (upd H p (.ins C dx (putsF ns vs (ms.zip ws)))) S (ms ++ ns) (ws ++ vs) (qs ++ ps) := by
  have nd := u.nd
  rw [← List.append_assoc] at nd
  have e : putsF ns vs (ms.zip ws) = (ms ++ ns).zip (ws ++ vs) := putsF_new u.wl (by rw [hl, r.length]) (List.nodup_append.mp nd).1
  rw [e]
  obtain ⟨y, sh⟩ := u.sh.put (o' := .ins C dx ((ms ++ ns).zip (ws ++ vs))) trivial trivial
  refine ⟨u.rl.gr y, u.me, u.km, sh, (u.rp.append r).gr y, by rw [List.length_append, List.length_append, u.ln, hl], nd, ?_⟩
  have lt := u.lt
  rwa [← List.append_assoc] at lt
end
/-- what comes of it -/
def Fin (k : Ka) (W : WX) (g0 : Gs) (H0 : Hp) (p C dx : Addr) (σ : Ls) : R P → Ends → Prop
  | .ok z S1, Dn => ∀ g' H' ms' ws' qs', z = .ins 0 ms' qs' → Sh k g0 H0 p g' H' S1 (.ins C dx (ms'.zip ws')) → RPs k.toKg g' H' ws' qs' → ms'.length = qs'.length → Dn.nx σ H'
  | .ex x S1, _ => ∀ g' H' o cls dd, Sh k g0 H0 p g' H' S1 o → mT o → RX k g' H' x cls dd → W cls dd σ H'
  | .bad, _ => False
def rdFl (K : PySem.W.Frag) (k : Ka) (W : WX) (s : Ev) (g0 : Gs) (H0 : Hp) (p C dx : Addr) (fl : List (List Str × List E)) : TS := fun Dn σ H => ∃ g L S ms ws qs, Un k g0 H0 p C dx σ L (flN fl) g H S ms ws qs ∧ Cls K C ∧ (∀ f ∈ flN fl, NoAttr K C f) ∧ Fin k W g0 H0 p C dx σ (iniF s L fl ms qs S) Dn
/-- by the attributes' values -/
theorem fl_vals {g0 g : Gs} {H0 H : Hp} {p C dx : Addr} {σ : Ls} {L : Loc} {S : Sto} {ms : List Str} {ws : List V} {qs : List P} {ns : List Str} {es : List E} {r : List (List Str × List E)} {Dn : Ends} (u : Un k g0 H0 p C dx σ L (flN ((ns, es) :: r)) g H S ms ws qs) (hc : Cls X.K C) (hn : ∀ f ∈ flN ((ns, es) :: r), NoAttr X.K C f)
    (b : Fin k W g0 H0 p C dx σ (iniF s L ((ns, es) :: r) ms qs S) Dn) : Bk k W σ g H (evs s es L S) fun ds S1 g1 H1 => ∀ vs, RDs k g1 H1 vs ds → vs.length = ns.length ∧ ∀ g2 H2, Ext g1 H1 g2 H2 → RS k g2 H2 S1 → H2 p = some (.ins C dx (ms.zip ws)) ∧ (ms.zip ws).length + ns.length < 1000 ∧ rdFl X.K k W s g0 H0 p C dx r Dn σ (upd H2 p (.ins C dx (putsF ns vs (ms.zip ws)))) := by
  have b : Fin k W g0 H0 p C dx σ ((evs s es L S).bind fun ds S1 => match allP ds with
    | some ps => if Nat.beq ns.length ps.length then iniF s L r (ms ++ ns) (qs ++ ps) S1 else .bad
    | none => .bad) Dn := b
  have e0 : flN ((ns, es) :: r) = ns ++ flN r := rfl
  cases hr : evs s es L S with
  | bad => rw [hr] at b; exact b.elim
  | ex x S1 =>
    rw [hr] at b
    intro g' H' cls dd ext rs rx
    exact b g' H' _ cls dd (u.step ext rs).sh trivial rx
  | ok ds S1 =>
    rw [hr] at b
    intro g1 H1 ext rs vs rv
    have b : Fin k W g0 H0 p C dx σ (match allP ds with
      | some ps => if Nat.beq ns.length ps.length then iniF s L r (ms ++ ns) (qs ++ ps) S1 else .bad
      | none => .bad) Dn := b
    split at b
    · rename_i ps hp
      split at b
      · rename_i hl
        have hl := Nat.eq_of_beq_eq_true hl
        have rp := RDs.ofP hp rv
        refine ⟨by rw [rp.length, hl], fun g2 H2 x2 rs2 => ?_⟩
        have u2 := (u.step ext rs).step x2 rs2
        have lt := u2.lt
        rw [e0] at lt hn u2
        refine ⟨u2.sh.at_, ?_, g2, L, S1, _, _, _, u2.put (rp.mono x2) hl, hc, fun f hf => hn f (List.mem_append_right _ hf), b⟩
        rw [List.length_append, List.length_append] at lt
        rw [List.length_zip, u2.wl, Nat.min_self, ← u2.wl]
        omega
      · exact b.elim
    · exact b.elim
theorem fls_ok (x : XC k G cal c sc fb j W X) {m n : Nat} {g0 : Gs} {H0 : Hp} {p C dx : Addr} : ∀ {sts : List Stmt} {fl : List (List Str × List E)}, trFs c sc (trE c m sc) sts = some fl → PSs X sts (rdFl X.K k W (ev G cal k.fr n) g0 H0 p C dx fl)
  | [], fl, h => by
    cases h
    refine PSs.imp pss_nil fun Dn σ H h => ?_
    obtain ⟨g, L, S, ms, ws, qs, u, _, _, b⟩ := h
    exact b g H ms ws qs rfl u.sh u.rp u.ln
  | st :: r, fl, h => by
    unfold trFs at h
    split at h
    · rename_i a fr h1 h2
      cases h
      have ih := fls_ok x (n := n) (g0 := g0) (H0 := H0) (p := p) (C := C) (dx := dx) h2
      unfold trF1 at h1
      split at h1
      · rename_i ts kt pt es k2 p2 pos
        split at h1
        · rename_i g gs es' h3 h4
          split at h1
          · rename_i h5
            cases h1
            rw [Bool.and_eq_true] at h5
            obtain ⟨i1, i2, i3⟩ := pgs_self x h3
            obtain ⟨s1, s2⟩ := starN X.env i3
            have hsw : swappedStores [.Tuple ts kt pt] (.Tuple es k2 p2) X.env = pure none := by
              cases ts with
              | nil => cases h3
              | cons t ts =>
                unfold selfs at h3
                split at h3
                · rename_i f fs h6 h7
                  exact unp_attr h6
                · cases h3
            have pa := pa_ok (k := k) (W := W) h5.1 (fun e e' z => (trE_ok (G := G) m k c sc fb e e' W X x z).e n) h4
            refine PSs.imp (pss_cons (ps_asg (pos := pos) (pe_tup (x1 := k2) (pos := p2) pa) (pg_tup (k := kt) (pos := pt) x.calm i1 s1 s2) sole_tup hsw rfl) ih) fun Dn σ H h => ?_
            obtain ⟨g1, L, S, ms, ws, qs, u, hc, hn, b⟩ := h
            have bk := fl_vals (X := X) u hc hn b
            refine ⟨g1, L, S, u.rl, u.sh.rs, bk.imp fun ds S1 g2 H2 e2 rs2 q vs rv => ?_⟩
            obtain ⟨q1, q2⟩ := q vs rv
            have lt := u.lt
            rw [show flN ((g :: gs, es') :: fr) = (g :: gs) ++ flN fr from rfl, List.length_append, List.length_append] at lt
            refine ⟨?_, fun a ha => ?_⟩
            · rw [q1, sizeLine_eq]; omega
            · obtain ⟨z1, z2, z3⟩ := q2 g2 (upd H2 a (.tup vs)) (Ext.laid rs2 ha _) (rs2.laid ha _)
              exact ⟨a, vs, rfl, .inl (.inl upd_same), by rw [q1, ← i2], p, dx, C, _, u.slot, z1, hc, fun f hf => hn f (List.mem_append_left _ hf), z2, q1, z3⟩
          · cases h1
        · cases h1
      · rename_i t e pos _
        split at h1
        · rename_i g e' h3 h4
          cases h1
          have pe := (trE_ok (G := G) m k c sc fb e e' W X x h4).e n
          have hso : swapsWithSole [t] e pos.line X.env = pure false := by
            unfold isSelf at h3
            split at h3
            · cases e <;> rfl
            · cases h3
          have hsw : swappedStores [t] e X.env = pure none := by
            unfold isSelf at h3
            split at h3
            · cases e <;> rfl
            · cases h3
          have hae : (assignEach [t] X.env).map (·.2) = [assign t X.env] := by
            unfold isSelf at h3
            split at h3
            · rfl
            · cases h3
          refine PSs.imp (pss_cons (ps_asg (pos := pos) pe (pg_self x h3) hso hsw hae) ih) fun Dn σ H h => ?_
          obtain ⟨g1, L, S, ms, ws, qs, u, hc, hn, b⟩ := h
          have bk := fl_vals (X := X) u hc hn b
          refine ⟨g1, L, S, u.rl, u.sh.rs, (show Bk k W σ g1 H (((ev G cal k.fr n).e e' L S).bind fun d S1 => (.ok [d] S1 : R (List D))) _ from bk).bind.imp fun d S1 g2 H2 e2 rs2 q v rv => ?_⟩
          obtain ⟨q1, q2⟩ := (q.here rs2) [v] (.cons rv .nil)
          obtain ⟨z1, z2, z3⟩ := q2 g2 H2 .refl rs2
          exact ⟨p, dx, C, _, u.slot, z1, hc, hn g List.mem_cons_self, by
            have z2 : (ms.zip ws).length + 1 < 1000 := z2
            omega, z3⟩
        · cases h1
      · cases h1
    · cases h
end
end Mn
/-! Mn17: all defs of a program; the law's end. -/
namespace Mn
open L2 PyProof.Rows PySem.Spec PySem
/-- where a def stands: a name of the top, a class's method; a property's getter -/
inductive Dk where
  | fn (p : He.Defn)
  | get (c f : Str)
  deriving DecidableEq
def adOf (K : PySem.W.Frag) : Dk → Addr
  | .fn p => He.fAd K p
  | .get c f => match PySem.W.recIn K (He.fAd K (c, some f)) "property" with
    | some (.ref g :: _) => g
    | _ => 0
def Dk.key : Dk → He.Defn
  | .fn p => p
  | .get c f => (c, some f)
def Dk.isTop : Dk → Bool
  | .fn (_, none) => true
  | _ => false
/-- a def of the text -/
structure Fd where
  x : Str
  at_ : Dk
  /-- an __init__: of which class; so many statements that lay nothing; what it lays -/
  ini : Option Nat
  pre : Nat
  fs : List Str
  qual : Str
  params : Arguments
  body : List Stmt
  scope : Scope
  ps : List Str
  N : List Str
  dps : List P
  own : Pos → Bool
  lam : Pos → Option (Nat × List Nat)
  tab : Bool
/-- a lambda of the text -/
structure Ld where
  t : LamT
  own : Pos → Bool
/-- an own exception: its name, what it keeps, the own one that it stands under -/
structure Xd where
  y : Str
  fld : Option Str
  up : Option Nat
/-- an own class: its name, its __init__, its methods and getters by their numbers, its fields -/
structure Cd where
  y : Str
  mkr : Option Nat
  ms : List (Str × Nat)
  prs : List (Str × Nat)
  fs : List Str
structure Gc where
  fds : List Fd
  lds : List Ld
  con : List (Str × P)
  free : List Str
  exs : List Xd
  cls : List Cd
def fnIx (x : Str) : List Fd → Nat → Option (Nat × Nat × List P)
  | [], _ => none
  | d :: r, i => if d.x == x && d.at_.isTop && d.ini.isNone then some (i, d.ps.length, d.dps) else fnIx x r (i + 1)
theorem fnIx_ok {x : Str} {i np : Nat} {dps : List P} : ∀ {l : List Fd} {b : Nat}, fnIx x l b = some (i, np, dps) → ∃ n d, i = b + n ∧ l[n]? = some d ∧ d.x = x ∧ d.ps.length = np ∧ d.dps = dps ∧ d.at_.isTop = true ∧ d.ini = none
  | [], _, h => by simp [fnIx] at h
  | d :: r, b, h => by
    unfold fnIx at h
    split at h
    · rename_i e
      cases h
      rw [Bool.and_eq_true, Bool.and_eq_true] at e
      exact ⟨0, d, rfl, rfl, eq_of_beq e.1.1, rfl, rfl, e.1.2, Option.isNone_iff_eq_none.mp e.2⟩
    · obtain ⟨n, d', h1, h2, h3⟩ := fnIx_ok h
      exact ⟨n + 1, d', by omega, by simpa using h2, h3⟩
def exIx (y : Str) : List Xd → Nat → Option Nat
  | [], _ => none
  | d :: r, i => if d.y == y then some i else exIx y r (i + 1)
theorem exIx_ok {y : Str} {i : Nat} : ∀ {l : List Xd} {b : Nat}, exIx y l b = some i → ∃ n d, i = b + n ∧ l[n]? = some d ∧ d.y = y
  | [], _, h => by simp [exIx] at h
  | d :: r, b, h => by
    unfold exIx at h
    split at h
    · rename_i e
      cases h
      exact ⟨0, d, rfl, rfl, eq_of_beq e⟩
    · obtain ⟨n, d', h1, h2, h3⟩ := exIx_ok h
      exact ⟨n + 1, d', by omega, by simpa using h2, h3⟩
def cdIx (y : Str) : List Cd → Nat → Option Nat
  | [], _ => none
  | d :: r, i => if d.y == y && d.mkr.isSome then some i else cdIx y r (i + 1)
theorem cdIx_ok {y : Str} {i : Nat} : ∀ {l : List Cd} {b : Nat}, cdIx y l b = some i → ∃ n d, i = b + n ∧ l[n]? = some d ∧ d.y = y ∧ d.mkr.isSome = true
  | [], _, h => by simp [cdIx] at h
  | d :: r, b, h => by
    unfold cdIx at h
    split at h
    · rename_i e
      cases h
      rw [Bool.and_eq_true] at e
      exact ⟨0, d, rfl, rfl, eq_of_beq e.1, e.2⟩
    · obtain ⟨n, d', h1, h2, h3⟩ := cdIx_ok h
      exact ⟨n + 1, d', by omega, by simpa using h2, h3⟩
def cdAt (gc : Gc) (ci : Nat) : Option Cd := if ci < gc.exs.length then none else gc.cls[ci - gc.exs.length]?
def mtOf (gc : Gc) (ci : Nat) (m : Str) : Option Nat := (cdAt gc ci).bind fun d => d.ms.lookup m
def prOf (gc : Gc) (ci : Nat) (f : Str) : Option (Sum Str Nat) := (cdAt gc ci).bind fun d => match d.prs.lookup f with
  | some i => some (.inr i)
  | none => if d.fs.contains f then some (.inl f) else none
def mkOf (gc : Gc) (ci : Nat) : Option Nat := (cdAt gc ci).bind (·.mkr)
def ltOf (gc : Gc) (f : Nat) : Option LamT := if f < gc.fds.length then none else (gc.lds[f - gc.fds.length]?).map (·.t)
def lamSuf : Str := ".<locals>."
def cfOf (gc : Gc) (fd : Fd) : Cf where
  N := fd.N
  own := fd.own
  con := fun x => gc.con.lookup x
  fn := fun x => fnIx x gc.fds 0
  free := fun x => gc.free.contains x
  blk := false
  tab := fd.tab
  qual := fd.qual ++ lamSuf
  lam := fd.lam
  lt := ltOf gc
  exn := fun y => exIx y gc.exs 0
  cn := fun y => cdIx y gc.cls gc.exs.length
  kb := false
  isoB := fun _ => false
def cfL (gc : Gc) (l : Ld) : Cf where
  N := l.t.ps ++ l.t.fr
  own := l.own
  con := fun x => gc.con.lookup x
  fn := fun x => fnIx x gc.fds 0
  free := fun x => gc.free.contains x
  blk := false
  tab := false
  qual := l.t.qual ++ lamSuf
  lam := fun _ => none
  lt := ltOf gc
  exn := fun _ => none
  cn := fun y => cdIx y gc.cls gc.exs.length
  kb := false
  isoB := fun _ => false
def trIni (gc : Gc) (fd : Fd) : Option (List (List Str × List E)) := match trFs (cfOf gc fd) fd.scope (trE (cfOf gc fd) fuE fd.scope) (fd.body.drop fd.pre) with
  | some fl => if decide (flN fl = fd.fs) && decide fd.fs.Nodup && Nat.blt fd.fs.length 1000 then some fl else none
  | none => none
def defOf (gc : Gc) (fd : Fd) : Def := match fd.ini with
  | none => ⟨fd.ps.length, fd.N.length, trB (cfOf gc fd) fd.scope (fun _ => true) fd.body, none⟩
  | some ci => match trIni gc fd with
    | some fl => ⟨fd.ps.length - 1, fd.N.length - 1, trB (cfOf gc fd) fd.scope (fun _ => true) (fd.body.take fd.pre), some (ci, fl)⟩
    | none => ⟨fd.ps.length - 1, fd.N.length - 1, [.bad], some (ci, [])⟩
def defL (gc : Gc) (l : Ld) : Def := ⟨(l.t.ps ++ l.t.fr).length, (l.t.ps ++ l.t.fr).length, [gC ((trE (cfL gc l) fuE l.t.scope l.t.body).map .ret)], none⟩
/-- what an exception keeps, how they stand to one another -/
def rsOf (exs : List Xd) (ci : Nat) (x : P) : Option Ex := match exs[ci]? with
  | some ⟨_, none, _⟩ => some ⟨ci, []⟩
  | some ⟨_, some f, _⟩ => if says x then some ⟨ci, [(f, x)]⟩ else none
  | none => none
def under (exs : List Xd) : Nat → Nat → Nat → Bool
  | 0, _, _ => false
  | n + 1, a, b => Nat.beq a b || (match exs[a]? with
    | some ⟨_, _, some c⟩ => under exs n c b
    | _ => false)
def suOf (exs : List Xd) (a b : Nat) : Option Bool := if Nat.blt a exs.length && Nat.blt b exs.length then some (under exs 8 a b) else none
def progOf (gc : Gc) (fu : Nat) : Prog := ⟨mtOf gc, prOf gc, mkOf gc, gc.fds.map (defOf gc) ++ gc.lds.map (defL gc), rsOf gc.exs, suOf gc.exs, fu⟩
/-- the addresses -/
def clOf (gc : Gc) (K : PySem.W.Frag) (ci : Nat) : Option Addr := match gc.exs[ci]? with
  | some d => some (He.ga K d.y)
  | none => (cdAt gc ci).map fun d => He.ga K d.y
def faOf (fds : List Fd) (K : PySem.W.Frag) (i : Nat) : Option Addr := (fds[i]?).bind fun d => if d.ini.isNone then some (adOf K d.at_) else none
def tabsOf (fds : List Fd) (K : PySem.W.Frag) : List (Addr × Str) := (fds.filter (·.tab)).map fun d => ((He.cT K d.at_.key).2, d.qual ++ lamSuf ++ "<lambda>")
def kgOf (gc : Gc) (K : PySem.W.Frag) : Kg := ⟨K, clOf gc K, ltOf gc, faOf gc.fds K, tabsOf gc.fds K⟩
/-- what is known of a def's object -/
structure Df (K : PySem.W.Frag) (mg : Str → Option Value) (fd : Fd) (f : Addr) (da : FuncData) : Prop where
  ad : f = adOf K fd.at_
  kf : fd.tab = true → He.fAd K fd.at_.key = f
  at_ : fd.at_.isTop = true → mg fd.x = some (.ref f)
  kp : PySem.W.keepIn K (.ref f) = true
  sc : FnScope fd.N fd.ps fd.scope
  fn : ∃ dvs kws, FunD K fd.x fd.qual fd.params fd.body fd.scope dvs kws f da
  bn : ∀ m, m ≤ fd.dps.length → ∃ dvs ds, (∀ kk : Kg, kk.K = K → KPs kk dvs (fd.dps.drop m)) ∧ Vals dvs ds ∧ Binds K da fd.ps ds
/-- what is known of a lambda's text -/
structure Lf (l : Ld) : Prop where
  sc : NdefX.NScope (l.t.ps ++ l.t.fr) l.t.ps l.t.fr l.t.scope
  bn : ∀ (cl : List (Str × Addr)) (pm cv ctv : Value) (us : List Value), us.length = l.t.ps.length → bindArgs (PySem.W.kla_fn "<lambda>" l.t.qual l.t.params l.t.body l.t.scope cl pm cv ctv) ⟨us, []⟩ = pure (l.t.ps.zip us)
/-- what is known of an own class -/
structure Cw (gc : Gc) (K : PySem.W.Frag) (mg : Str → Option Value) (ci : Nat) (d : Cd) : Prop where
  at_ : d.mkr.isSome = true → mg d.y = some (.ref (He.ga K d.y))
  cl : Cls K (He.ga K d.y)
  ty : d.mkr.isSome = true → TyC K (He.ga K d.y)
  fld : ∀ f ∈ d.fs, NoAttr K (He.ga K d.y) f
  ms : ∀ m i, d.ms.lookup m = some i → ∃ fd, gc.fds[i]? = some fd ∧ fd.ini = none ∧ Meth K (He.ga K d.y) m (adOf K fd.at_)
  prs : ∀ f i, d.prs.lookup f = some i → ∃ fd p, gc.fds[i]? = some fd ∧ fd.ini = none ∧ PropOf K (He.ga K d.y) f p (adOf K fd.at_)
  mkr : ∀ i, d.mkr = some i → ∃ fd np, gc.fds[i]? = some fd ∧ fd.ini = some ci ∧ fd.ps.length = np + 1 ∧ L2.Mk K (He.ga K d.y) (adOf K fd.at_) ∧ ∀ f ∈ fd.fs, NoAttr K (He.ga K d.y) f
/-- what stands behind the top -/
structure Wf (gc : Gc) (pg : Program) (K : PySem.W.Frag) (mg : Str → Option Value) : Prop where
  con : ∀ x p, gc.con.lookup x = some p → ∃ u v, mg x = some u ∧ RelV v u ∧ ∀ (kk : Kg) g H, kk.K = K → RP kk g H v p
  free : ∀ x ∈ gc.free, mg x = none
  defs : ∀ (i : Nat) (fd : Fd), gc.fds[i]? = some fd → ∃ f da, Df K mg fd f da
  lams : ∀ (i : Nat) (l : Ld), gc.lds[i]? = some l → Lf l
  exn : ∀ (i : Nat) (d : Xd), gc.exs[i]? = some d → ExF pg (kgOf gc K) mg (rsOf gc.exs) d.y i (He.ga K d.y)
  su : SuOk (kgOf gc K) (suOf gc.exs)
  one : ((gc.fds.filter (·.tab)).map fun d => (He.cT K d.at_.key).2).Nodup
  cls : ∀ (i : Nat) (d : Cd), gc.cls[i]? = some d → Cw gc K mg (gc.exs.length + i) d
  isB : ∀ (i : Nat) (d : Cd), gc.cls[i]? = some d → d.mkr.isSome = true → ∀ T ∈ kindsT, PySem.W.kitOne K (.type T) (.ref (He.ga K d.y)) = some false
  isO : ∀ (i i' : Nat) (d d' : Cd), gc.cls[i]? = some d → gc.cls[i']? = some d' → d.mkr.isSome = true → d'.mkr.isSome = true → PySem.W.kitOne K (.ref (He.ga K d'.y)) (.ref (He.ga K d.y)) = some (Nat.beq i i')
section
variable {gc : Gc} {pg : Program} {w : World} {K : PySem.W.Frag} {mg : Str → Option Value} {base : Heap} {fu : Nat}
theorem nodup_map {α β : Type} {f : α → β} : ∀ {l : List α}, (l.map f).Nodup → ∀ a ∈ l, ∀ b ∈ l, f a = f b → a = b
  | [], _, a, h, _, _, _ => by cases h
  | x :: l, nd, a, ha, b, hb, e => by
    rw [List.map_cons, List.nodup_cons] at nd
    rcases List.mem_cons.mp ha with ha | ha <;> rcases List.mem_cons.mp hb with hb | hb
    · rw [ha, hb]
    · exact absurd (List.mem_map.mpr ⟨b, hb, by rw [← e, ha]⟩) nd.1
    · exact absurd (List.mem_map.mpr ⟨a, ha, by rw [e, hb]⟩) nd.1
    · exact nodup_map nd.2 a ha b hb e
/-! ### a frame more -/
theorem RD.fr {k k1 : Ka} {g : Gs} {H : Hp} (e : k.toKg = k1.toKg) (e0 : k.h0 = k1.h0) (e1 : k.H0 = k1.H0) (ex : k.ex = k1.ex) (em : k.me = none) (f : ∀ n x, k.fc n = some x → k1.fc n = some x) {d : D} {v : V} (h : RD k g H v d) : RD k1 g H v d := by
  cases d with
  | clo f' cs =>
    obtain ⟨a, t, cl, ws, h2, h4, h5, h6⟩ := h
    rw [e] at h4 h6
    unfold CA at h5
    rw [e0, e1, ex] at h5
    exact ⟨a, t, cl, ws, h2, h4, h5, h6⟩
  | me =>
    obtain ⟨a, h1, _⟩ := h
    rw [em] at h1
    cases h1
  | lams _ _ => exact h.ctx e f rfl
  | p x => exact h.ctx e f rfl
  | ref n => exact h.ctx e f rfl
  | lam _ _ _ => exact h.ctx e f rfl
  | dead => trivial
theorem RDs.fr {k k1 : Ka} {g : Gs} {H : Hp} (e : k.toKg = k1.toKg) (e0 : k.h0 = k1.h0) (e1 : k.H0 = k1.H0) (ex : k.ex = k1.ex) (em : k.me = none) (f : ∀ n x, k.fc n = some x → k1.fc n = some x) {ds : List D} {vs : List V} (h : RDs k g H vs ds) : RDs k1 g H vs ds := by
  induction h with
  | nil => exact .nil
  | cons a _ ih => exact .cons (a.fr e e0 e1 ex em f) ih
/-- a frame is gone -/
theorem RLs.san {k k1 : Ka} {g : Gs} {H : Hp} {j m : Nat} (e : k1.toKg = k.toKg) (f : ∀ n x, n ≠ j → k1.fc n = some x → k.fc n = some x) (hm : ¬ m = j) {vs : List V} {ls : List (Nat × List Nat)} (h : RLs k1 g H m vs ls) : RLs k g H m vs ls := by
  induction h with
  | nil => exact .nil
  | @cons v vs q ls a _ ih =>
    refine .cons ?_ ih
    obtain ⟨f', sl⟩ := q
    cases sl with
    | nil =>
      have a : RP k1.toKg g H v (.lamc f') := a
      rw [e] at a
      exact a
    | cons i sl =>
      obtain ⟨a, t, cl, N, sc, h1, h2, h3, h4⟩ := a
      rw [e] at h3
      exact ⟨a, t, cl, N, sc, h1, f _ _ hm h2, h3, h4⟩
theorem RD.san {k k1 : Ka} {g : Gs} {H : Hp} {j : Nat} (e : k1.toKg = k.toKg) (f : ∀ n x, n ≠ j → k1.fc n = some x → k.fc n = some x) {d : D} {v : V} (hd : putD d = true) (h : RD k1 g H v d) : RD k g H v (sanD j d) := by
  cases d with
  | p x =>
    have h : RP k1.toKg g H v x := h
    rw [e] at h
    exact h
  | ref n => exact h
  | lam f' sl m =>
    show RD k g H v (if m = j then D.dead else D.lam f' sl m)
    by_cases hm : m = j
    · rw [if_pos hm]
      trivial
    · rw [if_neg hm]
      obtain ⟨a, t, cl, N, sc, h1, h2, h3, h4⟩ := h
      rw [e] at h3
      exact ⟨a, t, cl, N, sc, h1, f _ _ hm h2, h3, h4⟩
  | clo _ _ => cases hd
  | dead => trivial
  | me => cases hd
  | lams ls m =>
    show RD k g H v (if m = j then D.dead else D.lams ls m)
    by_cases hm : m = j
    · rw [if_pos hm]
      trivial
    · rw [if_neg hm]
      obtain ⟨a, vs, h1, h2, h3, h4⟩ := h
      exact ⟨a, vs, h1, h2, h3, h4.san e f hm⟩
theorem RDs.san {k k1 : Ka} {g : Gs} {H : Hp} {j : Nat} (e : k1.toKg = k.toKg) (f : ∀ n x, n ≠ j → k1.fc n = some x → k.fc n = some x) : ∀ {ds : List D} {vs : List V}, ds.all putD = true → RDs k1 g H vs ds → RDs k g H vs (ds.map (sanD j))
  | [], _, _, h => by cases h; exact .nil
  | d :: ds, _, hd, h => by
    rw [List.all_cons, Bool.and_eq_true] at hd
    cases h with
    | cons a b => exact .cons (a.san e f hd.1) (RDs.san e f hd.2 b)
theorem san_put {j : Nat} : ∀ {ds : List D}, ds.all putD = true → (ds.map (sanD j)).all putD = true
  | [], _ => rfl
  | d :: ds, h => by
    rw [List.all_cons, Bool.and_eq_true] at h
    rw [List.map_cons, List.all_cons, san_put h.2, Bool.and_true]
    cases d with
    | clo _ _ => cases h.1
    | me => cases h.1
    | lams ls m =>
      show putD (if m = j then D.dead else D.lams ls m) = true
      by_cases hm : m = j
      · rw [if_pos hm]; rfl
      · rw [if_neg hm]; rfl
    | lam f' sl m =>
      show putD (if m = j then D.dead else D.lam f' sl m) = true
      by_cases hm : m = j
      · rw [if_pos hm]; rfl
      · rw [if_neg hm]; rfl
    | _ => rfl
theorem RS.san {k k1 : Ka} {g : Gs} {H : Hp} {S : Sto} {j : Nat} (e : k1.toKg = k.toKg) (f : ∀ n x, n ≠ j → k1.fc n = some x → k.fc n = some x) (rs : RS k1 g H S) : RS k g H (san j S) := by
  have get : ∀ (n : Nat) (ds : List D), (Mn.san j S)[n]? = some (MO.lst ds) → ∃ es, S[n]? = some (MO.lst es) ∧ ds = es.map (sanD j) := by
    intro n ds h
    unfold Mn.san at h
    rw [List.getElem?_map] at h
    obtain ⟨⟨es⟩, h1, h2⟩ := Option.map_eq_some_iff.mp h
    cases h2
    exact ⟨es, h1, rfl⟩
  exact {
    len := by
      unfold Mn.san
      rw [List.length_map]
      exact rs.len
    nd := rs.nd
    fl := rs.fl
    dj := rs.dj
    cell := fun n a ds e1 e2 => by
      obtain ⟨es, h1, rfl⟩ := get n ds e2
      obtain ⟨vs, h2, h3⟩ := rs.cell n a es e1 h1
      exact ⟨vs, h2, h3.san e f (rs.pu n es h1)⟩
    tabs := by
      have h := rs.tabs
      rw [show k1.T = k.T from congrArg Kg.T e] at h
      exact h
    pu := fun n ds e2 => by
      obtain ⟨es, h1, rfl⟩ := get n ds e2
      exact san_put (rs.pu n es h1) }
theorem endR_in {k k1 : Ka} {j : Nat} {g : Gs} {H : Hp} {fl : Fl} {Q : VK} {E : XK} (e : k1.toKg = k.toKg) (f : ∀ n x, n ≠ j → k1.fc n = some x → k.fc n = some x)
    (b : Bk k (fun c d _ H => E c d H) [] g H (endR j fl) fun d _ g' H' => ∀ v, RD k g' H' v d → Q v H') : Bf k1 (fun c d _ H => E c d H) g H fl { nx := fun _ H' => Q .non H', rt := Q } := by
  cases fl with
  | nx L S => exact fun g' H' σ' x rs rl => b g' H' x (rs.san e f) .non RP.non
  | rt d S =>
    have b : Bk k (fun c d _ H => E c d H) [] g H (if endD d = true then (.ok d (Mn.san j S) : R D) else .bad) fun d _ g' H' => ∀ v, RD k g' H' v d → Q v H' := b
    split at b
    · rename_i hd
      intro g' H' v x rs r
      refine b g' H' x (rs.san e f) v ?_
      cases d with
      | p y =>
        have r : RP k1.toKg g' H' v y := r
        rw [e] at r
        exact r
      | ref n => exact r
      | _ => cases hd
    · exact b.elim
  | bk L S => exact b.elim
  | ct L S => exact b.elim
  | ex z L S => exact fun g' H' σ' cls dd x rs rl rx => b g' H' cls dd x (rs.san e f) (rx.ctx e)
  | bad => exact b.elim
theorem RL.start {k : Ka} {g : Gs} {H : Hp} {vs : List V} {ds : List D} (r : RDs k g H vs ds) (N : List Str) : RL k g H (L2.start N vs) (ds.map some ++ List.replicate (N.length - ds.length) none) := by
  have hl := r.length
  refine ⟨by unfold L2.start; simp [hl], fun i d e => ?_⟩
  have hi : i < ds.length := by
    by_cases hi : i < ds.length
    · exact hi
    · rw [List.getElem?_append_right (by simpa using hi), List.getElem?_replicate] at e
      split at e <;> cases e
  rw [List.getElem?_append_left (by simpa using hi), List.getElem?_map] at e
  obtain ⟨d', e1, e2⟩ := Option.map_eq_some_iff.mp e
  cases e2
  obtain ⟨v, e3, rv⟩ := r.get e1
  refine ⟨v, ?_, rv⟩
  unfold L2.start
  rw [List.getElem?_append_left (by rw [List.length_map, hl]; exact hi), List.getElem?_map, e3]
  rfl
/-- the names of a lambda's frame -/
theorem RL.startF {k : Ka} {g : Gs} {H : Hp} {vs us : List V} {ds es : List D} (r : RDs k g H vs ds) (r2 : RDs k g H us es) (N : List Str) (hN : N.length = vs.length + us.length) : RL k g H (NdefX.startF N vs (us.map some)) ((ds ++ es).map some) := by
  have q := RL.start (r.append r2) N
  have h1 : N.length - (ds ++ es).length = 0 := by
    rw [List.length_append, ← r.length, ← r2.length]; omega
  rw [h1, List.replicate_zero, List.append_nil] at q
  have h2 : L2.start N (vs ++ us) = NdefX.startF N vs (us.map some) := by
    unfold L2.start NdefX.startF
    rw [List.map_append, List.length_append, List.length_map, Nat.sub_sub, List.append_assoc]
  rw [← h2]
  exact q

/-! ### all of them -/
/-- the frame j of the callee: its cells are known from now on -/
def frX (k : Ka) (j : Nat) (x : List (Str × Addr) × List Str × Scope) : Ka := { k with fr := j, fc := fun n => if n = j then some x else k.fc n }
theorem frX_up {k : Ka} {j : Nat} {x : List (Str × Addr) × List Str × Scope} (hj : j < k.fr) (lo : ∀ m, m < k.fr → k.fc m = none) : ∀ n y, k.fc n = some y → (frX k j x).fc n = some y := by
  intro n y h
  show (if n = j then some x else k.fc n) = some y
  rw [if_neg]
  · exact h
  · intro z
    rw [z, lo j hj] at h
    cases h
theorem frX_lo {k : Ka} {j : Nat} {x : List (Str × Addr) × List Str × Scope} (hj : j < k.fr) (lo : ∀ m, m < k.fr → k.fc m = none) : ∀ m, m < (frX k j x).fr → (frX k j x).fc m = none := by
  intro m hm
  have hm : m < j := hm
  show (if m = j then some x else k.fc m) = none
  rw [if_neg (Nat.ne_of_lt hm)]
  exact lo m (Nat.lt_trans hm hj)
theorem frX_dn {k : Ka} {j : Nat} {x : List (Str × Addr) × List Str × Scope} : ∀ n y, n ≠ j → (frX k j x).fc n = some y → k.fc n = some y := by
  intro n y hn h
  have h : (if n = j then some x else k.fc n) = some y := h
  rw [if_neg hn] at h
  exact h
/-- the promises, at a level -/
structure AllAt (gc : Gc) (pg : Program) (w : World) (K : PySem.W.Frag) (mg : Str → Option Value) (base : Heap) (fu j : Nat) : Prop where
  fn : ∀ (i : Nat) (fd : Fd) (f : Addr) (da : FuncData), gc.fds[i]? = some fd → fd.ini = none → Df K mg fd f da → GOk pg w K mg base j f da fd.ps (spD (kgOf gc K) j fd.ps.length (evF (progOf gc fu) j i))
  lm : ∀ (f : Nat) (t : LamT), ltOf gc f = some t → LOk pg w K mg base (kgOf gc K) j t (evF (progOf gc fu) j f)
  ini : ∀ (i : Nat) (fd : Fd) (f : Addr) (da : FuncData) (ci np : Nat) (C : Addr), gc.fds[i]? = some fd → fd.ini = some ci → Df K mg fd f da → fd.ps.length = np + 1 → (kgOf gc K).cl ci = some C → Cls K C → (∀ x ∈ fd.fs, NoAttr K C x) → GOk pg w K mg base j f da fd.ps (spI (kgOf gc K) j np C (evF (progOf gc fu) j i))
theorem evF_bad {G : Prog} {j i : Nat} {d : Def} (hd : G.ds[i]? = some d) : ∀ (ds : List D) (S : Sto), ds.length ≠ d.np → evF G j i ds S = .bad := by
  intro ds S h
  cases j with
  | zero => rfl
  | succ j =>
    unfold evF
    rw [hd]
    dsimp only
    rw [if_neg h]
theorem ds_fd {i : Nat} {fd : Fd} (hi : gc.fds[i]? = some fd) : (progOf gc fu).ds[i]? = some (defOf gc fd) := by
  show (gc.fds.map (defOf gc) ++ gc.lds.map (defL gc))[i]? = _
  rw [List.getElem?_append_left (by rw [List.length_map]; exact (List.getElem?_eq_some_iff.mp hi).1), List.getElem?_map, hi]
  rfl
theorem ds_ld {f : Nat} {t : LamT} (h : ltOf gc f = some t) : ∃ (i : Nat) (l : Ld), gc.lds[i]? = some l ∧ l.t = t ∧ (progOf gc fu).ds[f]? = some (defL gc l) := by
  unfold ltOf at h
  split at h
  · cases h
  · rename_i hf
    obtain ⟨l, h1, h2⟩ := Option.map_eq_some_iff.mp h
    refine ⟨_, l, h1, h2, ?_⟩
    show (gc.fds.map (defOf gc) ++ gc.lds.map (defL gc))[f]? = _
    rw [List.getElem?_append_right (by rw [List.length_map]; omega), List.length_map, List.getElem?_map, h1]
    rfl
theorem Df.bn0 {gc : Gc} {fd : Fd} {f : Addr} {da : FuncData} (df : Df K mg fd f da) : Binds K da fd.ps [] := by
  obtain ⟨dvs, ds, q1, q2, q3⟩ := df.bn fd.dps.length (Nat.le_refl _)
  have z := (q1 (kgOf gc K) rfl ⟨fun _ => False, []⟩ fun _ => none).length
  rw [List.drop_length] at z
  obtain rfl : dvs = [] := List.length_eq_zero_iff.mp z
  cases q2
  exact q3
theorem np_fd {i : Nat} {fd : Fd} (hi : gc.fds[i]? = some fd) (hn : fd.ini = none) : ∀ (j : Nat) (ds : List D) (S : Sto), ds.length ≠ fd.ps.length → evF (progOf gc fu) j i ds S = .bad := by
  intro j
  have z := evF_bad (j := j) (ds_fd (fu := fu) hi)
  have e : (defOf gc fd).np = fd.ps.length := by
    unfold defOf
    rw [hn]
  rw [e] at z
  exact z
theorem np_in {i ci : Nat} {fd : Fd} (hi : gc.fds[i]? = some fd) (hn : fd.ini = some ci) : ∀ (j : Nat) (ds : List D) (S : Sto), ds.length ≠ fd.ps.length - 1 → evF (progOf gc fu) j i ds S = .bad := by
  intro j
  have z := evF_bad (j := j) (ds_fd (fu := fu) hi)
  have e : (defOf gc fd).np = fd.ps.length - 1 := by
    unfold defOf
    rw [hn]
    dsimp only
    split <;> rfl
  rw [e] at z
  exact z
/-- what each frame's context knows of the callees -/
theorem callees (wf : Wf gc pg K mg) {j : Nat} (ih : AllAt gc pg w K mg base fu j) {X : Cx} (e1 : X.prog = pg) (e2 : X.w = w) (e3 : X.K = K) (e4 : X.mg = mg) (e5 : X.base = base) :
    (∀ x i np dps, fnIx x gc.fds 0 = some (i, np, dps) → ∃ f fd ps, X.mg x = some (.ref f) ∧ PySem.W.keepIn X.K (.ref f) = true ∧ GOk X.prog X.w X.K X.mg X.base j f fd ps (spD (kgOf gc K) j np (evF (progOf gc fu) j i)) ∧ (kgOf gc K).fa i = some f ∧
      ∀ m, m ≤ dps.length → ∃ dvs ds, KPs (kgOf gc K) dvs (dps.drop m) ∧ Vals dvs ds ∧ Binds X.K fd ps ds) ∧ FaOk X (kgOf gc K) j (evF (progOf gc fu) j) ∧ LtOk X (kgOf gc K) j (evF (progOf gc fu) j) := by
  subst e1 e2 e3 e4 e5
  refine ⟨fun y i2 np dps h2 => ?_, fun f a h => ?_, fun f t h => ih.lm f t h⟩
  · obtain ⟨n, d2, h3, h4, h5, h6, h7, h8, h9⟩ := fnIx_ok h2
    rw [Nat.zero_add] at h3
    subst h3
    obtain ⟨f2, da2, df2⟩ := wf.defs _ d2 h4
    subst h5 h6 h7
    refine ⟨f2, da2, _, df2.at_ h8, df2.kp, ih.fn _ d2 f2 da2 h4 h9 df2, ?_, fun m hm => ?_⟩
    · show (gc.fds[i2]?).bind (fun d => if d.ini.isNone then some (adOf X.K d.at_) else none) = some f2
      rw [h4, df2.ad]
      show (if d2.ini.isNone then some (adOf X.K d2.at_) else none) = _
      rw [h9]
      rfl
    · obtain ⟨dvs, ds, q1, q2, q3⟩ := df2.bn m hm
      exact ⟨dvs, ds, q1 _ rfl, q2, q3⟩
  · have h : (gc.fds[f]?).bind (fun d => if d.ini.isNone then some (adOf X.K d.at_) else none) = some a := h
    obtain ⟨d2, h4, h5⟩ := Option.bind_eq_some_iff.mp h
    split at h5
    · rename_i h6
      have h6 := Option.isNone_iff_eq_none.mp h6
      obtain ⟨f2, da2, df2⟩ := wf.defs _ d2 h4
      have e : f2 = a := df2.ad.trans (Option.some.inj h5)
      subst e
      obtain ⟨_, _, F⟩ := df2.fn
      obtain ⟨oc, od, dV, kV, doc, pm, an, cdv, ct, osl, e0, lk, _⟩ := F.ex
      exact ⟨da2, d2.ps, ih.fn _ d2 f2 da2 h4 h6 df2, df2.bn0 (gc := gc), ⟨oc, od, da2, osl, lk⟩, np_fd h4 h6 j⟩
    · cases h5
theorem cd_cl {ci : Nat} {d : Cd} {C : Addr} (hd : cdAt gc ci = some d) (h : (kgOf gc K).cl ci = some C) : ∃ i, ci = gc.exs.length + i ∧ gc.cls[i]? = some d ∧ C = He.ga K d.y := by
  have h : clOf gc K ci = some C := h
  unfold clOf at h
  have hd0 := hd
  unfold cdAt at hd
  split at hd
  · cases hd
  · rename_i hl
    refine ⟨ci - gc.exs.length, by omega, hd, ?_⟩
    rw [List.getElem?_eq_none (by omega), hd0] at h
    exact (Option.some.inj h).symm
/-- .. of the classes -/
theorem clf_of (wf : Wf gc pg K mg) {j : Nat} (ih : AllAt gc pg w K mg base fu j) {X : Cx} (e1 : X.prog = pg) (e2 : X.w = w) (e3 : X.K = K) (e4 : X.mg = mg) (e5 : X.base = base) : ClF X (kgOf gc K) j (evF (progOf gc fu) j) (mtOf gc) (prOf gc) (mkOf gc) := by
  subst e1 e2 e3 e4 e5
  have mk_of : ∀ c i, mkOf gc c = some i → ∃ d, cdAt gc c = some d ∧ d.mkr = some i := fun c i h => by
    obtain ⟨d, h1, h2⟩ := Option.bind_eq_some_iff.mp h
    exact ⟨d, h1, h2⟩
  constructor
  · intro c i C h1 h2
    obtain ⟨d, h3, h4⟩ := mk_of c i h1
    obtain ⟨n, rfl, h5, rfl⟩ := cd_cl h3 h2
    exact (wf.cls n d h5).ty (by rw [h4]; rfl)
  · intro c i C T h1 h2 hT
    obtain ⟨d, h3, h4⟩ := mk_of c i h1
    obtain ⟨n, rfl, h5, rfl⟩ := cd_cl h3 h2
    exact wf.isB n d h5 (by rw [h4]; rfl) T hT
  · intro c i C c' i' C' h1 h2 h1' h2'
    obtain ⟨d, h3, h4⟩ := mk_of c i h1
    obtain ⟨n, rfl, h5, rfl⟩ := cd_cl h3 h2
    obtain ⟨d', h3', h4'⟩ := mk_of c' i' h1'
    obtain ⟨n', rfl, h5', rfl⟩ := cd_cl h3' h2'
    have q := wf.isO n n' d d' h5 h5' (by rw [h4]; rfl) (by rw [h4']; rfl)
    rw [q]
    congr 1
    cases e : Nat.beq n n' with
    | true =>
      obtain rfl := Nat.eq_of_beq_eq_true e
      exact (Nat.beq_refl _).symm
    | false =>
      cases e2 : Nat.beq (gc.exs.length + n) (gc.exs.length + n') with
      | false => rfl
      | true =>
        have := Nat.eq_of_beq_eq_true e2
        have hn : n = n' := by omega
        rw [hn, Nat.beq_refl] at e
        cases e
  · intro c f g C h1 h2
    obtain ⟨d, h3, h4⟩ := Option.bind_eq_some_iff.mp h1
    obtain ⟨n, rfl, h5, rfl⟩ := cd_cl h3 h2
    split at h4
    · cases h4
    · split at h4
      · rename_i hf
        cases h4
        have w := wf.cls n d h5
        exact ⟨w.cl, rfl, w.fld f (by simpa using hf)⟩
      · cases h4
  · intro c f i C h1 h2
    obtain ⟨d, h3, h4⟩ := Option.bind_eq_some_iff.mp h1
    obtain ⟨n, rfl, h5, rfl⟩ := cd_cl h3 h2
    split at h4
    · rename_i i' hi
      cases h4
      have w := wf.cls n d h5
      obtain ⟨fd, p, q1, q2, q3⟩ := w.prs f i hi
      obtain ⟨f2, da2, df2⟩ := wf.defs _ fd q1
      rw [← df2.ad] at q3
      exact ⟨w.cl, p, f2, da2, fd.ps, q3, ih.fn _ fd f2 da2 q1 q2 df2, df2.bn0 (gc := gc), np_fd q1 q2 j⟩
    · split at h4 <;> cases h4
  · intro c m i C h1 h2
    obtain ⟨d, h3, h4⟩ := Option.bind_eq_some_iff.mp h1
    obtain ⟨n, rfl, h5, rfl⟩ := cd_cl h3 h2
    have w := wf.cls n d h5
    obtain ⟨fd, q1, q2, q3⟩ := w.ms m i h4
    obtain ⟨f2, da2, df2⟩ := wf.defs _ fd q1
    rw [← df2.ad] at q3
    exact ⟨w.cl, f2, da2, fd.ps, q3, ih.fn _ fd f2 da2 q1 q2 df2, df2.bn0 (gc := gc), np_fd q1 q2 j⟩
  · intro c i C h1 h2
    obtain ⟨d, h3, h4⟩ := mk_of c i h1
    have h2' := h2
    obtain ⟨n, rfl, h5, rfl⟩ := cd_cl h3 h2
    have w := wf.cls n d h5
    obtain ⟨fd, np, q1, q2, q3, q4, q5⟩ := w.mkr i h4
    obtain ⟨f2, da2, df2⟩ := wf.defs _ fd q1
    rw [← df2.ad] at q4
    refine ⟨f2, da2, fd.ps, np, q4, ih.ini _ fd f2 da2 _ np _ q1 q2 df2 q3 h2' w.cl q5, q3, df2.bn0 (gc := gc), fun ds S h => np_in q1 q2 j ds S ?_⟩
    rw [q3]
    exact h
theorem cn_ok (wf : Wf gc pg K mg) {k1 : Ka} (kk1 : k1.toKg = kgOf gc K) (x : Str) (ci : Nat) (h : cdIx x gc.cls gc.exs.length = some ci) : ∃ C i, mg x = some (.ref C) ∧ k1.cl ci = some C ∧ mkOf gc ci = some i := by
  obtain ⟨n, d, rfl, h2, rfl, h4⟩ := cdIx_ok h
  obtain ⟨i, hi⟩ := Option.isSome_iff_exists.mp h4
  have hd : cdAt gc (gc.exs.length + n) = some d := by
    unfold cdAt
    rw [if_neg (by omega), Nat.add_sub_cancel_left, h2]
  refine ⟨_, i, (wf.cls n d h2).at_ h4, ?_, ?_⟩
  · rw [show k1.cl = clOf gc K from congrArg Kg.cl kk1]
    unfold clOf
    rw [List.getElem?_eq_none (by omega), hd]
    rfl
  · unfold mkOf
    rw [hd]
    exact hi
/-- what a frame of a def knows -/
theorem xc_of (wf : Wf gc pg K mg) (tb : ∀ fd ∈ gc.fds, fd.tab = true → LamX.TabB base mg (He.cT K fd.at_.key).1 (He.cT K fd.at_.key).2) {j i : Nat} (ih : AllAt gc pg w K mg base fu j) {fd : Fd} {f : Addr} {da : FuncData} (hi : gc.fds[i]? = some fd) (df : Df K mg fd f da)
    {oc : Value} {od : Option Addr} {osl : Array (Option Value)} (lk : K.lookup f = some ⟨oc, od, .func da, osl⟩) {cdv : Value} (hcd : PySem.W.codeIn K cdv fd.qual = true) (ec : da.code = cdv) {A : Around} {outer : List Env} {s : Shared} {H : Hp} {E : XK} {k1 : Ka} (kk1 : k1.toKg = kgOf gc K) (hfr : k1.fr = j) (hlo : ∀ m, m < k1.fr → k1.fc m = none)
    (h0 : k1.h0 = s.heap) (H0 : k1.H0 = H) (hex : k1.ex = []) (hfc : k1.fc j = some ((cxOf (L2.CX pg w) pg w K mg base fd.N fd.qual fd.scope f cdv A outer s H E).env.cells, fd.N, fd.scope)) (hr : RoomX j (A.deeper (envOfC fd.qual fd.scope s.heap.objs.size f cdv))) (hgu : A.guards = some []) :
    XC k1 (progOf gc fu) (evF (progOf gc fu) j) (cfOf gc fd) fd.scope (fun _ => true) j (fun c d _ H => E c d H) (cxOf (L2.CX pg w) pg w K mg base fd.N fd.qual fd.scope f cdv A outer s H E) ∧ XS k1 (progOf gc fu) (cfOf gc fd) (cxOf (L2.CX pg w) pg w K mg base fd.N fd.qual fd.scope f cdv A outer s H E) := by
  obtain ⟨c1, c2, c3⟩ := callees (fu := fu) wf ih (X := cxOf (L2.CX pg w) pg w K mg base fd.N fd.qual fd.scope f cdv A outer s H E) rfl rfl rfl rfl rfl
  have c4 := clf_of (fu := fu) wf ih (X := cxOf (L2.CX pg w) pg w K mg base fd.N fd.qual fd.scope f cdv A outer s H E) rfl rfl rfl rfl rfl
  constructor
  · refine { K := ?_, N := rfl, nd := df.sc.nd, sc := rfl, fb := fun _ _ => rfl, calm := rfl, rx := hr, gu := hgu, tk := takes_of rfl rfl rfl rfl, con := ?_, fn := ?_, free := fun y hy => wf.free y (by simpa [cfOf] using hy), jf := hfr, lo := hlo, kf := ?_, tb := ?_, q := fun _ => rfl, fo := ?_, lto := ?_, ltc := ?_, cf := ?_, cn := ?_, kbf := fun h => (by cases h) }
    · exact (congrArg Kg.K kk1).symm
    · intro y p h
      obtain ⟨u, v, q1, q2, q3⟩ := wf.con y p h
      exact ⟨u, v, q1, q2, fun g H => q3 _ g H (congrArg Kg.K kk1)⟩
    · rw [kk1]
      exact c1
    · intro _
      exact ⟨h0.symm, H0.symm, hex.symm, by rw [hfr]; exact hfc⟩
    · intro _ ht
      obtain ⟨c, ec2⟩ := He.codeIn_ref hcd
      have hm : fd ∈ gc.fds := List.mem_of_getElem? hi
      have q := tb fd hm ht
      have co : He.codeOf K fd.at_.key = c := He.codeOf_eq (p := fd.at_.key) (by rw [df.kf ht]; exact lk) (ec.trans ec2)
      have hT : k1.T = tabsOf gc.fds K := congrArg Kg.T kk1
      refine ⟨c, (He.cT K fd.at_.key).2, ec2, by rw [show (He.cT K fd.at_.key).1 = c from co] at q; exact q, ?_, ?_⟩
      · rw [hT]
        exact List.mem_map.mpr ⟨fd, List.mem_filter.mpr ⟨hm, ht⟩, rfl⟩
      · rw [hT]
        intro p hp e
        obtain ⟨d, hd, rfl⟩ := List.mem_map.mp hp
        have ed : d = fd := nodup_map wf.one d hd fd (List.mem_filter.mpr ⟨hm, ht⟩) e
        rw [ed]
        rfl
    · rw [kk1]
      exact c2
    · rw [kk1]
      exact c3
    · intro f t h
      rw [show k1.lt = ltOf gc from congrArg Kg.lt kk1]
      exact h
    · rw [kk1]
      exact c4
    · exact cn_ok wf kk1
  · refine ⟨fun y ci h => ?_, ?_, rfl, rfl⟩
    · obtain ⟨n, d, h1, h2, h3⟩ := exIx_ok h
      rw [Nat.zero_add] at h1
      subst h1 h3
      rw [kk1]
      exact ⟨_, wf.exn _ d h2⟩
    · rw [kk1]
      exact wf.su
theorem list_app {k : Ka} {W : WX} {G : Prog} {cal : Nat → List D → Sto → R D} {X : Cx} {b2 : List Stmt} {u : TS} {f : Stmt → C} (h : ∀ st, SOk k W G cal X st (f st)) (h2 : PSs X b2 u) : ∀ (b : List Stmt) (n : Nat), PSs X (b ++ b2) fun Dn σ H => rdS k W (evCs (ev G cal k.fr n) (rsF G k.fr) G.su (b.map f)) { Dn with nx := u Dn } σ H
  | [], n => PSs.imp h2 fun Dn σ H h => by
    obtain ⟨g, L, S, rl, rs, b⟩ := h
    exact b.now rs rl
  | st :: b, n => PSs.imp (pss_cons (h st n) (list_app h h2 b n)) fun Dn σ H h => by
    obtain ⟨g, L, S, rl, rs, b⟩ := h
    exact ⟨g, L, S, rl, rs, b.then⟩
theorem all_ok (wf : Wf gc pg K mg) (tb : ∀ fd ∈ gc.fds, fd.tab = true → LamX.TabB base mg (He.cT K fd.at_.key).1 (He.cT K fd.at_.key).2) : ∀ j, AllAt gc pg w K mg base fu j := by
  intro j
  induction j with
  | zero =>
    refine ⟨fun i fd f da hi hn df => ⟨fun h vs H Q E p => p.1, fun A outer s H args us vs Q E _ _ _ _ _ p => ?_⟩, fun f t h => ⟨fun A outer s H us vs ws Q E a c cl _ _ _ _ _ _ _ p => ?_⟩, fun i fd f da ci np C hi hn df hp _ _ _ => ⟨fun h vs H Q E p => p.1.trans hp.symm, fun A outer s H args us vs Q E _ _ _ _ _ p => ?_⟩⟩
    · obtain ⟨_, k, g, ds, S, _, _, _, _, _, _, _, _, _, b⟩ := p
      exact b.elim
    · obtain ⟨k, g, ds, cs, S, _, _, _, _, _, _, _, _, _, _, b⟩ := p
      exact b.elim
    · obtain ⟨_, _, _, _, _, k, g, ds, S, _, _, _, _, _, _, _, _, _, _, _, _, _, _, b⟩ := p
      exact b.elim
  | succ j ih =>
    refine ⟨fun i fd f da hi hn df => ?_, fun f t ht => ?_, fun i fd f da ci np C hi hn df hp hC hCl hNo => ?_⟩
    · have df0 := df
      obtain ⟨ad, _, _, hk, Sc, ⟨dvs, kws, F⟩, _⟩ := df
      obtain ⟨oc, od, dV, kV, doc, pm, an, cdv, ct, osl, e0, lk, hcd, _, _⟩ := F.ex
      have lk0 := lk
      have e00 := e0
      rw [e0] at lk ⊢
      refine gok_of lk hcd Sc (fun h vs H Q E p => p.1) fun A outer s H vs Q E hr hgu p => ?_
      obtain ⟨hl, k, g, ds, S, kk, hj, lo, h0, H0, hex, hme, rs, rv, b⟩ := p
      have hj : j < k.fr := hj
      let X := cxOf (L2.CX pg w) pg w K mg base fd.N fd.qual fd.scope f cdv A outer s H E
      let k1 := frX k j (X.env.cells, X.N, X.env.scope)
      have kk1 : k1.toKg = kgOf gc K := kk
      refine ⟨rdS k1 (fun c d _ H => E c d H) ((ev (progOf gc fu) (evF (progOf gc fu) j) j fu).c (defOf gc fd).b), ?_, g, _, S, RL.start (rv.fr (k := k) (k1 := k1) rfl rfl rfl rfl hme (frX_up hj lo)) fd.N, rs.ctx (k := k) (k' := k1) rfl (frX_up hj lo), ?_⟩
      · obtain ⟨x, xs⟩ := xc_of (fu := fu) wf tb ih hi df0 lk0 hcd (by rw [e00]) kk1 (A := A) (outer := outer) (s := s) (H := H) (E := E) rfl (frX_lo hj lo) h0 H0 hex (if_pos rfl) hr hgu
        have eb : (defOf gc fd).b = trB (cfOf gc fd) fd.scope (fun _ => true) fd.body := by
          unfold defOf
          rw [hn]
        rw [eb]
        exact list_c (fun st => trS_ok Sc.kind 40 st _ X x xs (passes_of rfl)) fd.body fu
      · have hl2 : ds.length = fd.ps.length := by rw [← rv.length]; exact hl
        have ed : defOf gc fd = ⟨fd.ps.length, fd.N.length, trB (cfOf gc fd) fd.scope (fun _ => true) fd.body, none⟩ := by
          unfold defOf
          rw [hn]
        unfold evF at b
        rw [ds_fd hi, ed] at b
        dsimp only at b
        rw [if_pos hl2] at b
        rw [ed, hl2]
        exact endR_in (k := k) (k1 := k1) rfl frX_dn b
    · obtain ⟨i, l, hl, rfl, hd⟩ := ds_ld (fu := fu) ht
      have L := wf.lams i l hl
      have whole : ∀ {k : Ka} {g : Gs} {H : Hp} {vs : List V} {ws : List (Option V)} {ds : List D} {cs : List (Sum P Nat)} {S : Sto} {Q : VK} {E : XK}, ws.length = l.t.fr.length → RDs k g H vs ds → RC k.toKg g H ws cs →
          Bk k (fun c d _ H => E c d H) [] g H (evF (progOf gc fu) (j + 1) f (ds ++ cs.map capV) S) (fun d _ g' H' => ∀ v, RD k g' H' v d → Q v H') → vs.length = l.t.ps.length ∧ (ds ++ cs.map capV).length = (l.t.ps ++ l.t.fr).length := by
        intro k g H vs ws ds cs S Q E hw rv rc b
        by_cases hn : (ds ++ cs.map capV).length = (l.t.ps ++ l.t.fr).length
        · obtain ⟨us, h1, h2⟩ := RC.toDs (k := k) rc
          have e1 := h2.length
          rw [h1, List.length_map] at hw
          rw [List.length_map] at e1
          refine ⟨?_, hn⟩
          rw [List.length_append, List.length_append, List.length_map] at hn
          rw [rv.length]
          omega
        · rw [evF_bad hd _ _ hn] at b
          exact b.elim
      refine lok_of L.sc L.bn (fun h vs ws H Q E hw p => ?_) fun A outer s H vs ws Q E a c cl hr hgu hw p => ?_
      · obtain ⟨k, g, ds, cs, S, kk, hj, lo, h0, H0, hex, hme, rs, rv, rc, b⟩ := p
        rw [← kk] at rc
        exact (whole hw rv rc b).1
      · obtain ⟨k, g, ds, cs, S, kk, hj, lo, h0, H0, hex, hme, rs, rv, rc, b⟩ := p
        rw [← kk] at rc
        obtain ⟨w1, w2⟩ := whole hw rv rc b
        obtain ⟨us, rfl, r2⟩ := RC.toDs (k := k) rc
        have hj : j < k.fr := hj
        let X := NdefX.ncx (L2.CX pg w) pg w K mg base (l.t.ps ++ l.t.fr) (nfL l.t cl c) a A outer s H E
        let k1 := frX k j (X.env.cells, X.N, X.env.scope)
        have kk1 : k1.toKg = kgOf gc K := kk
        unfold evF at b
        rw [hd] at b
        dsimp only at b
        rw [if_pos (show (ds ++ cs.map capV).length = (defL gc l).np from w2)] at b
        have b1 := endR_in (k := k) (k1 := k1) rfl frX_dn b
        have z0 : (defL gc l).nl - (defL gc l).np = 0 := Nat.sub_self _
        rw [z0, List.replicate_zero, List.append_nil] at b1
        obtain ⟨c1, c2, c3⟩ := callees (fu := fu) wf ih (X := X) rfl rfl rfl rfl rfl
        have c4 := clf_of (fu := fu) wf ih (X := X) rfl rfl rfl rfl rfl
        have x : XC k1 (progOf gc fu) (evF (progOf gc fu) j) (cfL gc l) l.t.scope (fun _ => false) j (fun c d _ H => E c d H) X := by
          refine { K := ?_, N := rfl, nd := L.sc.nd, sc := rfl, fb := fun _ h => (by cases h), calm := rfl, rx := hr, gu := hgu, tk := takes_of rfl rfl rfl rfl, con := ?_, fn := ?_, free := fun y hy => wf.free y (by simpa [cfL] using hy), jf := rfl, lo := frX_lo hj lo, kf := ?_, tb := fun _ h => (by cases h), q := fun _ => rfl, fo := ?_, lto := ?_, ltc := ?_, cf := ?_, cn := ?_, kbf := fun h => (by cases h) }
          · exact (congrArg Kg.K kk1).symm
          · intro y p h
            obtain ⟨u, v, q1, q2, q3⟩ := wf.con y p h
            exact ⟨u, v, q1, q2, fun g H => q3 _ g H (congrArg Kg.K kk1)⟩
          · rw [kk1]
            exact c1
          · intro _
            exact ⟨h0.symm, H0.symm, hex.symm, if_pos rfl⟩
          · rw [kk1]
            exact c2
          · rw [kk1]
            exact c3
          · intro f t h
            rw [show k1.lt = ltOf gc from congrArg Kg.lt kk1]
            exact h
          · rw [kk1]
            exact c4
          · exact cn_ok wf kk1
        cases fu with
        | zero => exact b1.elim
        | succ n =>
          cases he : trE (cfL gc l) fuE l.t.scope l.t.body with
          | none =>
            have hb : (defL gc l).b = [.bad] := by
              show [gC ((trE (cfL gc l) fuE l.t.scope l.t.body).map .ret)] = _
              rw [he]
              rfl
            rw [hb] at b1
            exact b1.elim
          | some e' =>
            have hb : (defL gc l).b = [.ret e'] := by
              show [gC ((trE (cfL gc l) fuE l.t.scope l.t.body).map .ret)] = _
              rw [he]
              rfl
            rw [hb] at b1
            refine ⟨_, (trE_ok (G := progOf gc (n + 1)) fuE k1 (cfL gc l) _ _ _ e' _ X x he).e n, ?_⟩
            have rl := RL.startF (rv.fr (k := k) (k1 := k1) rfl rfl rfl rfl hme (frX_up hj lo)) (r2.fr (k := k) (k1 := k1) rfl rfl rfl rfl hme (frX_up hj lo)) (l.t.ps ++ l.t.fr) (by rw [List.length_append, w1]; rw [List.length_map] at hw; omega)
            refine ⟨g, _, S, rl, rs.ctx (k := k) (k' := k1) rfl (frX_up hj lo), ?_⟩
            have b2 : Bf k1 (fun c d _ H => E c d H) g H ((R.fl ((ds ++ cs.map capV).map some) ((ev (progOf gc (n + 1)) (evF (progOf gc (n + 1)) j) j n).e e' ((ds ++ cs.map capV).map some) S) fun d S1 => .rt d S1).then fun L1 S1 => .nx L1 S1) { nx := fun _ H' => Q .non H', rt := Q } := b1
            have b3 : Bf k1 (fun c d _ H => E c d H) g H (R.fl ((ds ++ cs.map capV).map some) ((ev (progOf gc (n + 1)) (evF (progOf gc (n + 1)) j) j n).e e' ((ds ++ cs.map capV).map some) S) fun d S1 => .rt d S1) { nx := fun _ H' => Q .non H', rt := Q } := by
              cases q : (ev (progOf gc (n + 1)) (evF (progOf gc (n + 1)) j) j n).e e' ((ds ++ cs.map capV).map some) S with
              | ok d S1 => rw [q] at b2; exact b2
              | ex z S1 => rw [q] at b2; exact b2
              | bad => rw [q] at b2; exact b2
            have hσ := (Bf.fl (σ := NdefX.startF (l.t.ps ++ l.t.fr) vs (us.map some)) rl b3)
            exact hσ.imp fun d S1 g1 H1 x1 rs1 q v r => q g1 H1 v .refl rs1 r
    · have df0 := df
      obtain ⟨ad, _, _, hk, Sc, ⟨dvs, kws, F⟩, _⟩ := df
      obtain ⟨oc, od, dV, kV, doc, pm, an, cdv, ct, osl, e0, lk, hcd, _, _⟩ := F.ex
      have lk0 := lk
      have e00 := e0
      rw [e0] at lk ⊢
      refine gok_of lk hcd Sc (fun h vs H Q E p => p.1.trans hp.symm) fun A outer s H us0 Q E hr hgu p => ?_
      obtain ⟨hl, xx, dx, vs, H1, k, g, ds, S, rfl, n1, n2, n3, eH, kk, hj, lo, h0, H0, hex, hme, rs, rv, b⟩ := p
      have hj : j < k.fr := hj
      let X := cxOf (L2.CX pg w) pg w K mg base fd.N fd.qual fd.scope f cdv A outer s H E
      let k1 : Ka := { frX k j (X.env.cells, X.N, X.env.scope) with me := some xx }
      have kk1 : k1.toKg = kgOf gc K := kk
      have up : ∀ n y, k.fc n = some y → k1.fc n = some y := frX_up hj lo
      have dn : ∀ n y, n ≠ j → k1.fc n = some y → k.fc n = some y := frX_dn
      obtain ⟨x, xs⟩ := xc_of (fu := fu) wf tb ih hi df0 lk0 hcd (by rw [e00]) kk1 (A := A) (outer := outer) (s := s) (H := H) (E := E) rfl (frX_lo hj lo) h0 H0 hex (if_pos rfl) hr hgu
      have hl2 : ds.length = np := by
        rw [← rv.length]
        simpa using hl
      -- what the body tells
      cases hfl : trIni gc fd with
      | none =>
        exfalso
        have ed : defOf gc fd = ⟨fd.ps.length - 1, fd.N.length - 1, [.bad], some (ci, [])⟩ := by
          unfold defOf
          rw [hn]
          dsimp only
          rw [hfl]
        unfold evF at b
        rw [ds_fd hi, ed] at b
        dsimp only at b
        rw [if_pos (by rw [hl2, hp]; rfl)] at b
        have e1 : ∀ L S, (ev (progOf gc fu) (evF (progOf gc fu) j) j (progOf gc fu).fu).c [.bad] L S = .bad := fun L S => by
          show (ev (progOf gc fu) (evF (progOf gc fu) j) j fu).c [.bad] L S = .bad
          cases fu <;> rfl
        rw [e1] at b
        exact b
      | some fl =>
        have ed : defOf gc fd = ⟨fd.ps.length - 1, fd.N.length - 1, trB (cfOf gc fd) fd.scope (fun _ => true) (fd.body.take fd.pre), some (ci, fl)⟩ := by
          unfold defOf
          rw [hn]
          dsimp only
          rw [hfl]
        unfold trIni at hfl
        split at hfl
        · rename_i fl' htr
          split at hfl
          · rename_i hck
            cases hfl
            simp only [Bool.and_eq_true, decide_eq_true_eq] at hck
            obtain ⟨⟨hk1, hk2⟩, hk3⟩ := hck
            have hk3 : fd.fs.length < 1000 := Nat.le_of_ble_eq_true hk3
            unfold evF at b
            rw [ds_fd hi, ed] at b
            dsimp only at b
            rw [if_pos (by rw [hl2, hp]; rfl)] at b
            cases fu with
            | zero => exact b.elim
            | succ n =>
            have hdx : H1 dx = none := n2
            have rs1 : RS k1 g (upd H1 dx (.own xx)) S := (rs.laid hdx _).ctx (k := k) (k' := k1) rfl up
            have hx : upd H1 dx (.own xx) xx = none := by rw [upd_ne n3.symm]; exact n1
            have sh0 : Sh k1 g (upd H1 dx (.own xx)) xx (g.sh xx) H S (.ins C dx []) := by
              rw [eH]
              exact Sh.start rs1 hx trivial
            have ext1 : Ext g H1 g (upd H1 dx (.own xx)) := Ext.laid rs hdx _
            have rv1 : RDs k1 (g.sh xx) H (V.ref xx :: vs) (D.me :: ds) := .cons ⟨xx, rfl, rfl⟩ (((rv.mono ext1).fr (k := k) (k1 := k1) rfl rfl rfl rfl hme up).gr sh0.gr)
            have rl := RL.start rv1 fd.N
            rw [show (D.me :: ds).map some ++ List.replicate (fd.N.length - (D.me :: ds).length) none = some D.me :: (ds.map some ++ List.replicate (fd.N.length - 1 - (fd.ps.length - 1)) none) from by
              rw [List.length_cons, hl2, hp, List.map_cons, List.cons_append, show fd.N.length - (np + 1) = fd.N.length - 1 - (np + 1 - 1) by omega]] at rl
            have psk : PSs X fd.body fun Dn σ H => rdS k1 (fun c d _ H => E c d H) (evCs (ev (progOf gc (n + 1)) (evF (progOf gc (n + 1)) j) j n) (rsF (progOf gc (n + 1)) j) (progOf gc (n + 1)).su ((fd.body.take fd.pre).map (trS (cfOf gc fd) fd.scope (fun _ => true) (trE (cfOf gc fd) fuE fd.scope) 40))) { Dn with nx := rdFl X.K k1 (fun c d _ H => E c d H) (ev (progOf gc (n + 1)) (evF (progOf gc (n + 1)) j) j (n + 1)) g (upd H1 dx (.own xx)) xx C dx fl Dn } σ H := by
              have q := list_app (fun st => trS_ok (m := fuE) Sc.kind 40 st _ X x xs (passes_of rfl)) (fls_ok x (m := fuE) (n := n + 1) (g0 := g) (H0 := upd H1 dx (.own xx)) (p := xx) (C := C) (dx := dx) htr) (fd.body.take fd.pre) n
              rw [List.take_append_drop] at q
              exact q
            refine ⟨_, psk, g.sh xx, _, S, rl, sh0.rs, ?_⟩
            have b : Bk k (fun c d _ H => E c d H) [] g H1 (iniR j ci (ev (progOf gc (n + 1)) (evF (progOf gc (n + 1)) j) j (n + 1)) fl (evCs (ev (progOf gc (n + 1)) (evF (progOf gc (n + 1)) j) j n) (rsF (progOf gc (n + 1)) j) (progOf gc (n + 1)).su ((fd.body.take fd.pre).map (trS (cfOf gc fd) fd.scope (fun _ => true) (trE (cfOf gc fd) fuE fd.scope) 40)) (some D.me :: (ds.map some ++ List.replicate (fd.N.length - 1 - (fd.ps.length - 1)) none)) S)) (fun d _ g' H' => RD k g' H' (.ref xx) d → Q .non H') := b
            generalize evCs (ev (progOf gc (n + 1)) (evF (progOf gc (n + 1)) j) j n) (rsF (progOf gc (n + 1)) j) (progOf gc (n + 1)).su ((fd.body.take fd.pre).map (trS (cfOf gc fd) fd.scope (fun _ => true) (trE (cfOf gc fd) fuE fd.scope) 40)) (some D.me :: (ds.map some ++ List.replicate (fd.N.length - 1 - (fd.ps.length - 1)) none)) S = r at b ⊢
            have kC : k.cl ci = some C := by
              rw [show k.cl = (kgOf gc K).cl from congrArg Kg.cl kk]
              exact hC
            cases r with
            | rt _ _ => exact b.elim
            | bk _ _ => exact b.elim
            | ct _ _ => exact b.elim
            | bad => exact b.elim
            | ex z L S' =>
              intro g' H' σ' cls dd ext rs' rl' rx
              have sh := sh0.step trivial ext rs'
              obtain ⟨d1, d2, d3⟩ := sh.done rs1
              exact b _ H' cls dd (ext1.trans sh.ext) (RS.san (k := k) (k1 := k1) rfl dn d1) (RX.ctx (k := k1) (k' := k) rfl (rx.gp d2.gp))
            | nx L S' =>
              intro g' H' σ' ext rs' rl'
              have b : Bk k (fun c d _ H => E c d H) [] g H1 (if isMe L then (match iniF (ev (progOf gc (n + 1)) (evF (progOf gc (n + 1)) j) j (n + 1)) L fl [] [] S' with
                | .ok p S1 => (.ok (.p (insOf ci p)) (san j S1) : R D)
                | .ex x S1 => .ex x (san j S1)
                | .bad => .bad) else .bad) (fun d _ g' H' => RD k g' H' (.ref xx) d → Q .non H') := b
              split at b
              · rename_i hm
                have me : L[0]? = some (some .me) := by
                  unfold isMe at hm
                  split at hm
                  · rfl
                  · cases hm
                refine ⟨g', L, S', [], [], [], ⟨rl', me, rfl, sh0.step trivial ext rs', .nil, rfl, by rw [hk1]; exact hk2, by rw [hk1]; exact hk3⟩, hCl, fun x hx => hNo x (by rw [← hk1]; exact hx), ?_⟩
                cases hr : iniF (ev (progOf gc (n + 1)) (evF (progOf gc (n + 1)) j) j (n + 1)) L fl [] [] S' with
                | ok z S1 =>
                  rw [hr] at b
                  intro g2 H2 ms' ws' qs' ez sh rp ln
                  subst ez
                  obtain ⟨d1, d2, d3⟩ := sh.done rs1
                  exact b _ H2 (ext1.trans sh.ext) (RS.san (k := k) (k1 := k1) rfl dn d1) (RP.ins sh.at_ d3 kC ln (rp.gr d2))
                | ex z S1 =>
                  rw [hr] at b
                  intro g2 H2 o cls dd sh mo rx
                  obtain ⟨d1, d2, d3⟩ := sh.done rs1
                  exact b _ H2 cls dd (ext1.trans sh.ext) (RS.san (k := k) (k1 := k1) rfl dn d1) (RX.ctx (k := k1) (k' := k) rfl (rx.gp d2.gp))
                | bad =>
                  rw [hr] at b
                  exact b.elim
              · exact b.elim
          · cases hfl
        · cases hfl
end
end Mn
/-! Mr8: the law's end, with tables of code objects. -/
namespace Mn
open L2 PyProof.Rows PySem.Spec PySem
abbrev tab0 : Obj := { cls := .none, data := .fields #[] }
section
variable {pg : Program} {w : World} {K : PySem.W.Frag} {mg mb : Str → Option Value} {j : Nat} {fa a : Addr} {fd : FuncData} {x : Str} {sp : Heap → Sp} {s₁ : Shared} {vs : List Value} {ns : List Int} {cs : List (Addr × Addr)}
/-- what may be tracked where a law begins -/
def Beg (K : PySem.W.Frag) (a : Addr) (cs : List (Addr × Addr)) (H : Hp) : Prop := ∀ b u, H b = some u → (b = a ∧ K.lookup b = none ∧ ∃ o xs, u = HO.frz o (.lst xs)) ∨ ((∃ p ∈ cs, p.2 = b) ∧ u = .tbl #[])
theorem law_main {H : Hp} (KX : K.In s₁.heap) (hns : s₁.heap.Ns mainGlobals mg) (hb : s₁.heap.Ns builtinsNs mb) (hbb : ∀ x : Str, x ≠ "__name__" → mb x = bootBuiltins x) (hlim : s₁.heap.NoLimit) (hg : s₁.gens = #[])
    (hT : ∀ p ∈ cs, s₁.heap.get? p.2 = some tab0) (nT : ∀ p ∈ cs, K.lookup p.2 = none) (hC : ∀ p ∈ cs, PySem.W.CodeHd s₁.heap p.1 p.2)
    (hbm : ∃ (bm : Addr) (ob : Obj), mg "__builtins__" = some (.ref bm) ∧ bm ≠ builtinsNs ∧ s₁.heap.get? bm = some ob ∧ ob.cls = .type "module" ∧ ob.dict = some builtinsNs ∧ ob.data = .plain)
    (ha : s₁.heap.get? a = some { cls := .type "list", data := .seq vs.toArray }) (room : Room j callerA)
    (F : ∀ base : Heap, K.In base → base.Ns mainGlobals mg → (∀ p ∈ cs, LamX.TabB base mg p.1 p.2) → GOk pg w K mg base j fa fd [x] sp) (bnd : ∀ (s : Shared) (u : Value), BindsTo s fd ⟨[u], []⟩ [(x, u)])
    (only : Beg K a cs H) (tabs : ∀ p ∈ cs, H p.2 = some (.tbl #[])) (hok : HOk pg w H s₁.heap) (start : sp s₁.heap [.ref a] H (fun v _ => v = .bl true) fun _ _ _ => False) :
    codeAny (model pg w) callerA (.call (.ref fa) ⟨[.ref a], []⟩) (fun r s' => r = .ok (.ret (.bool true)) ∧ OldK s₁.heap s'.heap ∧ s'.os = s₁.os ∧ AllBare s'.gens) s₁ := by
  -- an object that is neither the script nor a table is as it was
  have untr : ∀ {b : Addr} {o : Obj}, s₁.heap.get? b = some o → (b = a → K.lookup b ≠ none) → (∀ p ∈ cs, p.2 ≠ b) → (hidT s₁.heap H).get? b = some o := by
    intro b o e d1 d2
    refine hidT_get e ?_
    cases q : H b with
    | none => rfl
    | some u =>
      rcases only b u q with ⟨e1, e2, _⟩ | ⟨⟨p, hp, e1⟩, _⟩
      · exact absurd e2 (d1 e1)
      · exact absurd e1 (d2 p hp)
  have other : ∀ {b : Addr} {o : Obj}, s₁.heap.get? b = some o → (∀ xs n, o.data ≠ .seq xs n) → o.data ≠ .fields #[] → (hidT s₁.heap H).get? b = some o := by
    intro b o e n1 n2
    refine untr e (fun z => ?_) fun p hp z => ?_
    · subst z
      rw [ha] at e
      cases e
      exact (n1 _ _ rfl).elim
    · subst z
      rw [hT p hp] at e
      cases e
      exact n2 rfl
  have ns_of : ∀ {b : Addr} {m : Str → Option Value}, s₁.heap.Ns b m → (hidT s₁.heap H).Ns b m := by
    rintro b m ⟨o, es, ep, e, d, r⟩
    refine ⟨o, es, ep, other e (fun xs n z => ?_) (fun z => ?_), d, r⟩
    · rw [d] at z
      cases z
    · rw [d] at z
      cases z
  have k_of : K.In (hidT s₁.heap H) := fun b o e => untr (KX b o e) (fun _ z => by rw [e] at z; cases z) fun p hp z => by
    rw [← z, nT p hp] at e
    cases e
  have lim_of : (hidT s₁.heap H).NoLimit := by
    obtain ⟨mc, l1, l2⟩ := hlim
    exact ⟨mc, ns_of l1, l2⟩
  have notG : ∀ {b : Addr} {o : Obj}, s₁.heap.get? b = some o → (∀ es n, o.data ≠ .dict es n) → b ≠ mainGlobals := by
    intro b o e d z
    obtain ⟨o', es, ep, e', d', _⟩ := hns
    rw [z, e'] at e
    cases e
    exact d _ _ d'
  have tb_of : ∀ p ∈ cs, LamX.TabB (hidT s₁.heap H) mg p.1 p.2 := by
    intro p hp
    have here := hT p hp
    constructor
    · obtain ⟨o, us, file, tf, flags, tg, inF, text, tt, e1, r1, r2, r3, more⟩ := hC p hp
      refine ⟨o, us, file, tf, flags, tg, inF, text, tt, other e1 (fun xs n z => ?_) (fun z => ?_), r1, r2, r3, more⟩
      · rw [r2] at z
        cases z
      · rw [r2] at z
        cases z
        simp at r3
    · obtain ⟨bm, ob, b1, b2, b3, b4, b5, b6⟩ := hbm
      refine ⟨bm, ob, b1, b2, notG b3 (fun es n z => ?_), fun z => ?_, other b3 (fun xs n z => ?_) (fun z => ?_), b4, b5, b6⟩
      · rw [b6] at z
        cases z
      · rw [z, here] at b3
        cases b3
        cases b6
      · rw [b6] at z
        cases z
      · rw [b6] at z
        cases z
    · exact (notG here (fun es n z => by cases z)).symm
  have env : Env0 pg w K mg (hidT s₁.heap H) callerA [] s₁ H := {
    frames := rfl
    mod := ⟨k_of, ns_of hns, ⟨mb, ns_of hb, hbb⟩, lim_of⟩
    bs := fun b o e => of_hidT e
    bsz := Nat.le_of_eq (hidT_size _ _)
    funs := trivial
    frf := fun b z => by cases z
    hok := hok
    bare := .of_eq hg }
  refine codeAny_mono ((F _ k_of (ns_of hns) tb_of).go callerA [] s₁ H ⟨[.ref a], []⟩ [.ref a] [.ref a] _ _ room rfl env (bnd s₁ (.ref a)) (.cons rfl .nil) start) ?_
  intro r s' q
  match r, q with
  | .error e, q =>
    obtain ⟨_, _, _, _, _, _, _, _, _, _, _, _, z⟩ := q
    exact z.elim
  | .ok .next, q => exact q.elim
  | .ok .brk, q => exact q.elim
  | .ok .cont, q => exact q.elim
  | .ok (.ret u), ⟨v, H', os, bare, un, hok', ru, q⟩ =>
    have q : v = .bl true := q
    subst q
    cases ru
    -- the tables have grown, all else stands
    have same : ∀ b o, (∀ p ∈ cs, p.2 ≠ b) → s₁.heap.get? b = some o → s'.heap.get? b = some o := by
      intro b o nb e
      cases q : H b with
      | none => exact un.keep b o e q (fun z => by cases z) (fun z => by cases z)
      | some u =>
        rcases only b u q with ⟨_, _, ob, xs, rfl⟩ | ⟨⟨p, hp, e1⟩, _⟩
        · have old := (hok b _ q).1
          have new := (hok' b _ (un.frzs b ob _ q)).1
          rw [e] at old
          cases old
          exact new
        · exact absurd e1 (nb p hp)
    have grew : ∀ p ∈ cs, ∃ more : Array Value, s'.heap.get? p.2 = some { cls := .none, data := .fields more } := by
      intro p hp
      obtain ⟨more, z⟩ := un.tbls p.2 #[] (tabs p hp)
      exact ⟨_, hok' p.2 _ z⟩
    refine ⟨rfl, ⟨fun b o e => ?_, fun b o e => ?_⟩, os, bare⟩
    · by_cases hb : ∃ p ∈ cs, p.2 = b
      · obtain ⟨p, hp, rfl⟩ := hb
        obtain ⟨more, hm⟩ := grew p hp
        rw [hT p hp] at e
        cases e
        exact .inr (.inl ⟨((hC p hp).tab (hT p hp)).isCodeTable, rfl, #[], more, rfl, by rw [Array.empty_append]; exact hm⟩)
      · exact .inl (same b o (fun p hp z => hb ⟨p, hp, z⟩) e)
    · by_cases hb : ∃ p ∈ cs, p.2 = b
      · obtain ⟨p, hp, rfl⟩ := hb
        obtain ⟨more, hm⟩ := grew p hp
        exact ⟨_, hm⟩
      · exact ⟨o, same b o (fun p hp z => hb ⟨p, hp, z⟩) e⟩
theorem law_go (KX : K.In s₁.heap) (hns : s₁.heap.Ns mainGlobals mg) (hb : s₁.heap.Ns builtinsNs mb) (hbb : ∀ x : Str, x ≠ "__name__" → mb x = bootBuiltins x) (hlim : s₁.heap.NoLimit) (hg : s₁.gens = #[])
    (hT : ∀ p ∈ cs, s₁.heap.get? p.2 = some tab0) (nT : ∀ p ∈ cs, K.lookup p.2 = none) (hC : ∀ p ∈ cs, PySem.W.CodeHd s₁.heap p.1 p.2)
    (hbm : ∃ (bm : Addr) (ob : Obj), mg "__builtins__" = some (.ref bm) ∧ bm ≠ builtinsNs ∧ s₁.heap.get? bm = some ob ∧ ob.cls = .type "module" ∧ ob.dict = some builtinsNs ∧ ob.data = .plain)
    (ha : s₁.heap.get? a = some { cls := .type "list", data := .seq vs.toArray }) (hi : IntsAre vs ns) (hl : ns.length ≤ sizeLine) (room : Room j callerA)
    (F : ∀ base : Heap, K.In base → base.Ns mainGlobals mg → (∀ p ∈ cs, LamX.TabB base mg p.1 p.2) → GOk pg w K mg base j fa fd [x] sp) (bnd : ∀ (s : Shared) (u : Value), BindsTo s fd ⟨[u], []⟩ [(x, u)])
    (hsp : ∀ (h : Heap) (H : Hp), (∀ p ∈ cs, H p.2 = some (.tbl #[])) → ScA K ⟨fun _ => False, []⟩ H a (ns.map V.int) → sp h [.ref a] H (fun v _ => v = .bl true) fun _ _ _ => False) :
    codeAny (model pg w) callerA (.call (.ref fa) ⟨[.ref a], []⟩) (fun r s' => r = .ok (.ret (.bool true)) ∧ OldK s₁.heap s'.heap ∧ s'.os = s₁.os ∧ AllBare s'.gens) s₁ := by
  have rvs : Vals (ns.map V.int) vs := vals_ints hi
  have lens := hi.length
  have aT : ∀ p ∈ cs, p.2 ≠ a := fun p hp z => by
    have e := hT p hp
    rw [z, ha] at e
    cases e
  -- the tables alone
  let T0 : Hp := fun b => if b ∈ cs.map (·.2) then some (.tbl #[]) else none
  have t0 : ∀ b u, T0 b = some u → (∃ p ∈ cs, p.2 = b) ∧ u = .tbl #[] := by
    intro b u z
    have z : (if b ∈ cs.map (·.2) then some (HO.tbl #[]) else none) = some u := z
    split at z
    · rename_i hm
      cases z
      obtain ⟨p, hp, e⟩ := List.mem_map.mp hm
      exact ⟨⟨p, hp, e⟩, rfl⟩
    · cases z
  have tin : ∀ p ∈ cs, T0 p.2 = some (.tbl #[]) := fun p hp => if_pos (List.mem_map.mpr ⟨p, hp, rfl⟩)
  have tok : ∀ b, (∃ p ∈ cs, p.2 = b) → s₁.heap.get? b = some tab0 := fun b ⟨p, hp, e⟩ => by rw [← e]; exact hT p hp
  cases q : K.lookup a with
  | some o =>
    have same : o = { cls := .type "list", data := .seq vs.toArray } := Option.some.inj ((KX a o q).symm.trans ha)
    subst same
    refine law_main (H := T0) KX hns hb hbb hlim hg hT nT hC hbm ha room F bnd (fun b u z => .inr (t0 b u z)) tin (fun b u z => ?_) (hsp _ _ tin (.inr ⟨_, vs.toArray, _, q, rfl, rfl, rfl, ?_, by simpa using rvs⟩))
    · obtain ⟨hp, rfl⟩ := t0 b u z
      exact tok b hp
    · rw [List.size_toArray, lens]
      exact hl
  | none =>
    have ne0 : ∀ p ∈ cs, upd T0 a (.frz { cls := .type "list", data := .seq vs.toArray } (.lst (ns.map V.int))) p.2 = some (.tbl #[]) := fun p hp => by
      rw [upd_ne (aT p hp)]
      exact tin p hp
    have pick : ∀ b u, upd T0 a (.frz { cls := .type "list", data := .seq vs.toArray } (.lst (ns.map V.int))) b = some u → (b = a ∧ u = .frz { cls := .type "list", data := .seq vs.toArray } (.lst (ns.map V.int))) ∨ ((∃ p ∈ cs, p.2 = b) ∧ u = .tbl #[]) := by
      intro b u z
      by_cases hb : b = a
      · subst hb
        rw [upd_same] at z
        cases z
        exact .inl ⟨rfl, rfl⟩
      · rw [upd_ne hb] at z
        exact .inr (t0 b u z)
    refine law_main (H := upd T0 a (.frz { cls := .type "list", data := .seq vs.toArray } (.lst (ns.map V.int)))) KX hns hb hbb hlim hg hT nT hC hbm ha room F bnd (fun b u z => ?_) ne0 (fun b u z => ?_) (hsp _ _ ne0 (.inl ⟨_, upd_same, fun z => ?_⟩))
    · rcases pick b u z with ⟨rfl, rfl⟩ | h
      · exact .inl ⟨rfl, q, _, _, rfl⟩
      · exact .inr h
    · rcases pick b u z with ⟨rfl, rfl⟩ | ⟨hp, rfl⟩
      · exact ⟨ha, by rw [List.length_map]; exact hl, vs, _, rvs, ha⟩
      · exact tok b hp
    · rcases z with z | z
      · exact z
      · cases z
end
/-- a law by its evaluation -/
theorem law_end {l : PySem.W.OpenLaw} {n j : Nat} {q : Program} {loose : List Str} {XP : (Str → Option Value) → Heap → Prop} {YP : World → Heap → Prop} {d : DefRec} {gc : Gc} {fu iL : Nat} {fdL : Fd} {x : Str}
    (hn : l.most = some n) (hn2 : n ≤ sizeLine) (hdf : d.params.defaults = []) (room : Room j callerA) (hL : gc.fds[iL]? = some fdL) (hx : fdL.ps = [x]) (hname : fdL.x = d.name) (htop : fdL.at_.isTop = true) (hini : fdL.ini = none)
    (F : ∀ (w : World) (mg : Str → Option Value) (h : Heap), YP w h → h.Ns mainGlobals mg → ∃ (K : PySem.W.Frag) (f : Addr) (da : FuncData), K.In h ∧ Wf gc l.prog K mg ∧ Df K mg fdL f da ∧ (∀ (s : Shared) (u : Value), BindsTo s da ⟨[u], []⟩ [(x, u)]) ∧
      ∀ fd ∈ gc.fds, fd.tab = true → h.get? (He.cT K fd.at_.key).2 = some tab0 ∧ K.lookup (He.cT K fd.at_.key).2 = none ∧ PySem.W.codeHdIn K (He.cT K fd.at_.key).1 (He.cT K fd.at_.key).2 = true)
    (law : ∀ ns : List Int, ns.length ≤ n → ∃ S, evF (progOf gc fu) j iL [.p (.scr ns)] [] = .ok (.p (.bl true)) S) :
    PySem.W.WalkO q loose XP YP l.row.toRowW d [] (fun f vs => PySem.call f vs) := by
  refine Att.attach_call hn hdf fun w s₀ s₁ mg mb fa o pm cd doc a vs ns G Y ho hd hcd hmg hobj hints hlen hg => ?_
  obtain ⟨K, f, da, KX, wf, df, hb, ht⟩ := F w mg _ Y G.T.g
  have e : fa = f := by
    have := df.at_ htop
    rw [hname, hmg] at this
    cases this
    rfl
  subst e
  have inn : ∀ p ∈ (gc.fds.filter (·.tab)).map (fun d => He.cT K d.at_.key), ∃ fd ∈ gc.fds, fd.tab = true ∧ p = He.cT K fd.at_.key := by
    intro p hp
    obtain ⟨fd, hfd, rfl⟩ := List.mem_map.mp hp
    obtain ⟨h1, h2⟩ := List.mem_filter.mp hfd
    exact ⟨fd, h1, h2, rfl⟩
  refine law_go (cs := (gc.fds.filter (·.tab)).map fun d => He.cT K d.at_.key) KX G.T.g G.T.b G.T.builtins G.T.nolimit hg (fun p hp => ?_) (fun p hp => ?_) (fun p hp => ?_) G.T.bmain hobj hints (Nat.le_trans hlen hn2) room (fun base _ _ TB => hx ▸ (all_ok (fu := fu) wf (fun fd h1 h2 => ?_) j).fn iL fdL fa da hL hini df) hb fun h H hT sc => ?_
  · obtain ⟨fd, h1, h2, rfl⟩ := inn p hp
    exact (ht fd h1 h2).1
  · obtain ⟨fd, h1, h2, rfl⟩ := inn p hp
    exact (ht fd h1 h2).2.1
  · obtain ⟨fd, h1, h2, rfl⟩ := inn p hp
    exact PySem.W.codeHd_of_K KX (ht fd h1 h2).2.2
  · obtain ⟨S, run⟩ := law ns hlen
    let k : Ka := { kgOf gc K with h0 := h, H0 := H, fr := j, fc := fun _ => none, ex := [], me := none }
    have r0 : RS k ⟨fun _ => False, []⟩ H [] := {
      len := rfl
      nd := List.nodup_nil
      fl := fun _ z => z.elim
      dj := fun _ z => by cases z
      cell := fun n a ds z _ => by cases n <;> cases z
      tabs := fun p hp => by
        obtain ⟨fd, hfd, rfl⟩ := List.mem_map.mp (show p ∈ tabsOf gc.fds K from hp)
        exact LamX.TabS.nil (hT _ (List.mem_map.mpr ⟨fd, hfd, rfl⟩))
      pu := fun n ds z => by cases n <;> cases z }
    refine ⟨rfl, k, ⟨fun _ => False, []⟩, [.p (.scr ns)], [], rfl, Nat.le_refl _, fun _ _ => rfl, rfl, rfl, rfl, rfl, r0, .cons (RP.scr sc) .nil, ?_⟩
    rw [run]
    intro g' H' x' rs v r
    cases (show RP k.toKg g' H' v (.bl true) from r)
    rfl
  · exact TB _ (List.mem_map.mpr ⟨fd, List.mem_filter.mpr ⟨h1, h2⟩, rfl⟩)
end Mn
/-! Mn18: the head's facts for the evaluator. -/
namespace Mn
open L2 PyProof.Rows PySem.Spec PySem
mutual
/-- u stands for the constant p, its objects the module's own -/
def valB (K : PySem.W.Frag) : P → Value → Bool
  | .non, .none => true
  | .bl b, .bool c => b == c
  | .int i, .int j _ => decide (i = j)
  | .str x, .str y _ => decide (x = y)
  | .tup ps, .ref a => match K.lookup a with
    | some ⟨.type c, none, .seq its _, _⟩ => decide (c = "tuple") && (decide (its.size ≤ sizeLine) && valsB K ps its.toList)
    | _ => false
  | _, _ => false
def valsB (K : PySem.W.Frag) : List P → List Value → Bool
  | [], [] => true
  | p :: ps, u :: us => valB K p u && valsB K ps us
  | _, _ => false
end
section
variable {K : PySem.W.Frag}
mutual
theorem valB_ok : ∀ {p : P} {u : Value}, valB K p u = true → ∃ v, RelV v u ∧ ∀ (kk : Kg) g H, kk.K = K → RP kk g H v p
  | .non, u, h => by
    cases u <;> first | (simp [valB] at h; done) | skip
    exact ⟨.non, rfl, fun _ _ _ _ => .non⟩
  | .bl b, u, h => by
    cases u <;> first | (simp [valB] at h; done) | skip
    rename_i c
    have : b = c := by simpa [valB] using h
    subst this
    exact ⟨.bl b, rfl, fun _ _ _ _ => .bl b⟩
  | .int i, u, h => by
    cases u <;> first | (simp [valB] at h; done) | skip
    rename_i j t
    have : i = j := by simpa [valB] using h
    subst this
    exact ⟨.int i, ⟨t, rfl⟩, fun _ _ _ _ => .int i⟩
  | .str x, u, h => by
    cases u <;> first | (simp [valB] at h; done) | skip
    rename_i y t
    have : x = y := by simpa [valB] using h
    subst this
    exact ⟨.str x, ⟨t, rfl⟩, fun _ _ _ _ => .str x⟩
  | .tup ps, u, h => by
    cases u with
    | ref a =>
      unfold valB at h
      split at h
      · rename_i c its n sl e
        simp only [Bool.and_eq_true, decide_eq_true_eq] at h
        obtain ⟨rfl, h2, h3⟩ := h
        obtain ⟨vs, r1, r2⟩ := valsB_ok h3
        exact ⟨.ref a, rfl, fun kk g H ek => .tup (.inr ⟨_, its, n, by rw [ek]; exact e, rfl, rfl, rfl, h2, r1⟩) (r2 kk g H ek)⟩
      · cases h
    | _ => simp [valB] at h
  | .lst _, u, h => by cases u <;> simp [valB] at h
  | .dct _ _, u, h => by cases u <;> simp [valB] at h
  | .fn _, u, h => by cases u <;> simp [valB] at h
  | .lamc _, u, h => by cases u <;> simp [valB] at h
  | .scr _, u, h => by cases u <;> simp [valB] at h
  | .ins _ _ _, u, h => by cases u <;> simp [valB] at h
  | .unk, u, h => by cases u <;> simp [valB] at h
theorem valsB_ok : ∀ {ps : List P} {us : List Value}, valsB K ps us = true → ∃ vs, Vals vs us ∧ ∀ (kk : Kg) g H, kk.K = K → RPs kk g H vs ps
  | [], [], _ => ⟨[], .nil, fun _ _ _ _ => .nil⟩
  | p :: ps, u :: us, h => by
    unfold valsB at h
    rw [Bool.and_eq_true] at h
    obtain ⟨v, a, b⟩ := valB_ok h.1
    obtain ⟨vs, a', b'⟩ := valsB_ok h.2
    exact ⟨v :: vs, .cons a a', fun kk g H ek => .cons (b kk g H ek) (b' kk g H ek)⟩
  | [], _ :: _, h => by simp [valsB] at h
  | _ :: _, [], h => by simp [valsB] at h
end
def conB (K : PySem.W.Frag) (q : Str × P) : Bool := match PySem.W.nsIn K mainGlobals q.1 with
  | some (some u) => valB K q.2 u
  | _ => false
def consB (con : List (Str × P)) (K : PySem.W.Frag) : Bool := con.all (conB K)
theorem con_in : ∀ {con : List (Str × P)} {x : Str} {p : P}, con.lookup x = some p → (x, p) ∈ con
  | (y, q) :: r, x, p, h => by
    rw [List.lookup_cons] at h
    cases e : x == y with
    | true =>
      rw [e] at h
      cases h
      rw [eq_of_beq e]
      exact List.mem_cons_self
    | false =>
      rw [e] at h
      exact List.mem_cons_of_mem _ (con_in h)
theorem consB_ok {con : List (Str × P)} {h : Heap} {mg : Str → Option Value} (X : K.In h) (G : h.Ns mainGlobals mg) (c : consB con K = true) (x : Str) (p : P) (e : con.lookup x = some p) : ∃ u v, mg x = some u ∧ RelV v u ∧ ∀ (kk : Kg) g H, kk.K = K → RP kk g H v p := by
  have q : conB K (x, p) = true := List.all_eq_true.mp c _ (con_in e)
  unfold conB at q
  split at q
  · rename_i u z
    obtain ⟨v, r1, r2⟩ := valB_ok q
    exact ⟨u, v, PySem.W.mg_of X G z, r1, r2⟩
  · cases q
end
/-! ### own exceptions -/
/-- the kinds of built-in bases -/
inductive Bas where
  | value | index | arith | lookup | over | key
def Bas.B : Bas → String
  | .value => "ValueError" | .index => "IndexError" | .arith => "ArithmeticError" | .lookup => "LookupError" | .over => "OverflowError" | .key => "KeyError"
def Bas.nB : Bas → String
  | .value => "ValueError" | .index => "IndexError" | .arith => "ArithmeticError" | .lookup => "LookupError" | .over => "OverflowError" | .key => "LookupError"
def Bas.nw : Bas → String
  | .value => "ValueError.__new__" | .index => "IndexError.__new__" | .arith => "ArithmeticError.__new__" | .lookup => "LookupError.__new__" | .over => "OverflowError.__new__" | .key => "LookupError.__new__"
def Bas.i0 : Bas → String
  | .value => "ValueError.__init__" | .index => "IndexError.__init__" | .arith => "ArithmeticError.__init__" | .lookup => "LookupError.__init__" | .over => "OverflowError.__init__" | .key => "LookupError.__init__"
def Bas.ini : Bas → String
  | .value => "ValueError.__init__" | .index => "IndexError.__init__" | .arith => "ArithmeticError.__init__" | .lookup => "LookupError.__init__" | .over => "OverflowError.__init__" | .key => "KeyError.__init__"
def Bas.bmN : Bas → List Value
  | .value => vaMro | .index => ixMro | .arith => arMro | .lookup => luMro | .over => ofMro | .key => luMro
def Bas.bmB : Bas → List Value
  | .value => vaMro | .index => ixMro | .arith => arMro | .lookup => luMro | .over => ofMro | .key => keyMro
theorem Bas.ok : ∀ b : Bas, BsF b.B b.nB b.nw b.i0 b.ini b.bmN b.bmB
  | .value => bsValue | .index => bsIndex | .arith => bsArith | .lookup => bsLookup | .over => bsOver | .key => bsKey
abbrev EnW := Option (Str × Str × Arguments × FuncBody × Scope × Addr × Addr)
def iniN : Str := "__init__"
def clsN : Str := "__class__"
/-- the __init__ of the class y -/
def enW (K : PySem.W.Frag) (y : Str) : EnW := match K.lookup (He.fAd K (y, some iniN)) with
  | some ⟨_, _, .func fd, _⟩ => some (fd.name, fd.qualname, fd.params, fd.body, fd.scope, fd.globals, fd.builtins)
  | _ => none
/-- an own exception with an __init__: its words -/
structure En where
  y : Str
  qual : Str
  sf : Str
  a : Str
  f : Str
  msg : Expr
  params : Arguments
  scope : Scope
  ps : Nat → Pos
def En.val (e : En) : EnW := some (iniN, e.qual, e.params, .stmts (supBody e.sf e.a e.f e.msg e.ps), e.scope, mainGlobals, builtinsNs)
/-- what is asked of each class -/
def exB0 (K : PySem.W.Frag) (y : Str) : Bool := decide (PySem.W.nsIn K mainGlobals y = some (some (.ref (He.ga K y)))) && PySem.W.keepIn K (.ref (He.ga K y)) && decide (PySem.W.subIn K (.ref (He.ga K y)) (.type "BaseException") = some true) && decide (PySem.W.typeIn K (.ref (He.ga K y)) = some (.type "type"))
/-- .. of one without an __init__ -/
def exB1 (b : Bas) (K : PySem.W.Frag) (y : Str) : Bool := PySem.W.excIn K (He.ga K y) b.bmN b.nw
/-- .. of one with an __init__ -/
def fileB (K : PySem.W.Frag) (file : Str) (c : Addr) : Bool := match K.lookup c with
  | some ⟨_, _, .fields vs, _⟩ => (match vs[2]? with
    | some (Value.str x _) => decide (file = x)
    | _ => false)
  | _ => false
def cellB (K : PySem.W.Frag) (C c : Addr) : Bool := match K.lookup c with
  | some ⟨_, _, .cell (some (.ref D)), _⟩ => decide (D = C)
  | _ => false
def codB (K : PySem.W.Frag) (file : Str) (C : Addr) (qual : Str) : Value → Value → List (Str × Addr) → Bool
  | .none, .ref cda, [(n, cc)] => decide (n = clsN) && PySem.W.codeIn K (.ref cda) qual && fileB K file cda && cellB K C cc
  | _, _, _ => false
def funB (K : PySem.W.Frag) (file : Str) (C : Addr) (qual : Str) (fI : Addr) : Bool := match K.lookup fI with
  | some ⟨_, _, .func fd, _⟩ => codB K file C qual fd.defaults fd.code fd.closure
  | _ => false
def exB2 (b : Bas) (file : Str) (K : PySem.W.Frag) (y qual f : Str) : Bool :=
  PySem.W.excInitIn K (He.ga K y) b.bmB b.nw && PySem.W.excOver K (He.ga K y) b.bmB && decide (PySem.W.findIn K (.ref (He.ga K y)) "__setattr__" = some (some (.builtin "object.__setattr__"))) && decide (PySem.W.takerIn K (He.ga K y) f = some none) && PySem.W.hasDictIn K (He.ga K y) &&
  decide (PySem.W.nsIn K cStatics "thirdparty.any" = some none) && decide (PySem.W.ks_superIn K (He.ga K y) (He.ga K y) "__init__" = some (some (.builtin b.ini))) && decide (PySem.W.subIn K (.ref (He.ga K y)) (.type b.B) = some true) && decide (PySem.W.mroIn K (He.ga K y) (.ref (He.ga K y)) = some true) &&
  decide (PySem.W.nsIn K mainGlobals "super" = some none) && decide (PySem.W.findIn K (.ref (He.ga K y)) "__init__" = some (some (.ref (He.fAd K (y, some iniN))))) && decide (PySem.W.typeIn K (.ref (He.fAd K (y, some iniN))) = some (.type "function")) && funB K file (He.ga K y) qual (He.fAd K (y, some iniN)) &&
  xfB K (He.ga K y) && decide (PySem.W.findIn K (.ref (He.ga K y)) f = some none)
section
variable {K : PySem.W.Frag} {pg : Program} {mg : Str → Option Value} {h : Heap} {gc : Gc}
theorem exB0_ok (X : K.In h) (G : h.Ns mainGlobals mg) {y : Str} (e : exB0 K y = true) : mg y = some (.ref (He.ga K y)) ∧ PySem.W.keepIn K (.ref (He.ga K y)) = true ∧ PySem.W.subIn K (.ref (He.ga K y)) (.type "BaseException") = some true ∧ PySem.W.typeIn K (.ref (He.ga K y)) = some (.type "type") := by
  unfold exB0 at e
  simp only [Bool.and_eq_true, decide_eq_true_eq] at e
  exact ⟨PySem.W.mg_of X G e.1.1.1, e.1.1.2, e.1.2, e.2⟩
/-- a plain one -/
theorem exf_plain (X : K.In h) (G : h.Ns mainGlobals mg) {i : Nat} {d : Xd} {b : Bas} (hi : gc.exs[i]? = some d) (hf : d.fld = none) (e0 : exB0 K d.y = true) (e1 : exB1 b K d.y = true) : ExF pg (kgOf gc K) mg (rsOf gc.exs) d.y i (He.ga K d.y) := by
  obtain ⟨h1, h2, h3, h4⟩ := exB0_ok X G e0
  refine ⟨?_, h1, h2, h3, h4, .inl ⟨_, _, _, _, b.ok.nw, e1, fun x z hz => ?_⟩⟩
  · show clOf gc K i = _
    unfold clOf
    rw [hi]
  · unfold rsOf at hz
    rw [hi] at hz
    obtain ⟨y, fl, up⟩ := d
    subst hf
    cases hz
    exact ⟨rfl, rfl⟩
/-- what the text of such an __init__ must have -/
structure EnF (pg : Program) (e : En) : Prop where
  sc : SupS e.sf e.a e.scope
  hp : ∃ ar : Arg, (e.params.posonlyargs ++ e.params.args).head? = some ar ∧ ar.arg = e.sf
  bn : ∀ (kV doc pm : Value) (an : Option Addr) (cdv ct : Value) (cc : Addr) (x v : Value), bindArgs (PySem.W.ksFn "__init__" e.qual e.params (supBody e.sf e.a e.f e.msg e.ps) e.scope .none kV doc pm an cdv ct cc) ⟨[x, v], []⟩ = pure [(e.sf, x), (e.a, v)]
  ln : ((e.ps 2).endLine == (e.ps 3).line) = true
  ms : MsgK e.a e.msg
  top : (pg.main.scope.names.lookup ("super" : Str)).isSome = false
theorem exf_sup (X : K.In h) (G : h.Ns mainGlobals mg) {i : Nat} {d : Xd} {b : Bas} {file : Str} {e : En} (hi : gc.exs[i]? = some d) (hy : e.y = d.y) (hf : d.fld = some e.f) (ef : EnF pg e) (hfile : ((pg.main.file : Str) == file) = true) (e0 : exB0 K d.y = true) (e2 : exB2 b file K e.y e.qual e.f = true) (ew : enW K e.y = e.val) :
    ExF pg (kgOf gc K) mg (rsOf gc.exs) d.y i (He.ga K d.y) := by
  obtain ⟨h1, h2, h3, h4⟩ := exB0_ok X G e0
  unfold exB2 at e2
  simp only [Bool.and_eq_true, decide_eq_true_eq] at e2
  obtain ⟨⟨⟨⟨⟨⟨⟨⟨⟨⟨⟨⟨⟨⟨a1, a2⟩, a3⟩, a4⟩, a5⟩, a6⟩, a7⟩, a8⟩, a9⟩, a10⟩, a11⟩, a12⟩, a13⟩, a14⟩, a15⟩ := e2
  rw [hy] at a1 a2 a3 a4 a5 a7 a8 a9 a11 a12 a13 a14 a15 ew
  refine ⟨?_, h1, h2, h3, h4, .inr ⟨He.fAd K (d.y, some iniN), e.qual, e.sf, e.a, e.f, e.msg, e.params, e.scope, b.B, b.nB, b.nw, b.i0, b.ini, b.bmN, b.bmB, ⟨?_, ef.sc, ef.hp, ef.top⟩, ⟨b.ok, a1, a2, a3, a4, a5, a6, a7, a8, a9, a10, a11, a12⟩, ef.ms, xfB_ok a14, a15, fun x z hz => ?_⟩⟩
  · show clOf gc K i = _
    unfold clOf
    rw [hi]
  · unfold enW at ew
    unfold funB at a13
    cases q : K.lookup (He.fAd K (d.y, some iniN)) with
    | none =>
      rw [q] at a13
      cases a13
    | some o =>
      obtain ⟨oc, od, dt, osl⟩ := o
      rw [q] at a13 ew
      cases dt with
      | func fd =>
        obtain ⟨n1, n2, n3, n4, n5, n6, n7, n8, n9, n10, n11, n12, n13, n14, n15⟩ := fd
        have ew : (some (n1, n2, n3, n4, n5, n6, n15) : EnW) = some (iniN, e.qual, e.params, .stmts (supBody e.sf e.a e.f e.msg e.ps), e.scope, mainGlobals, builtinsNs) := ew
        simp only [Option.some.injEq, Prod.mk.injEq] at ew
        obtain ⟨z1, z2, z3, z4, z5, z6, z7⟩ := ew
        subst z1 z2 z3 z4 z5 z6 z7
        have a14' : codB K file (He.ga K d.y) e.qual n8 n13 n7 = true := a13
        clear a13 ew
        unfold codB at a14'
        split at a14'
        · rename_i cda n cc
          simp only [Bool.and_eq_true, decide_eq_true_eq] at a14'
          obtain ⟨⟨⟨b1, b2⟩, b3⟩, b4⟩ := a14'
          subst b1
          unfold fileB at b3
          cases q3 : K.lookup cda with
          | none => rw [q3] at b3; cases b3
          | some o3 =>
            obtain ⟨c1, c2, c3, c4⟩ := o3
            rw [q3] at b3
            cases c3 with
            | fields vs =>
              have b3 : (match vs[2]? with
                | some (Value.str x _) => decide (file = x)
                | _ => false) = true := b3
              split at b3
              · rename_i x tf hx
                have b3 := of_decide_eq_true b3
                subst b3
                unfold cellB at b4
                cases q4 : K.lookup cc with
                | none => rw [q4] at b4; cases b4
                | some o4 =>
                  obtain ⟨d1, d2, d3, d4⟩ := o4
                  rw [q4] at b4
                  split at b4
                  · rename_i v1 v2 D v4 heq
                    cases heq
                    have b4 := of_decide_eq_true b4
                    subst b4
                    exact ⟨oc, od, .none, n9, n10, n11, n12, n14, osl, cda, cc, c1, c2, vs, c4, file, tf, _, _, _, e.ps, q, b2, q3, hx, hfile, q4, ef.ln, fun x v => ef.bn _ _ _ _ _ _ _ x v⟩
                  · cases b4
              · cases b3
            | _ => cases b3
        · cases a14'
      | _ => cases a13
  · unfold rsOf at hz
    rw [hi] at hz
    obtain ⟨y, fl, up⟩ := d
    have hf : fl = some e.f := hf
    subst hf
    have hz : (if says x = true then some (⟨i, [(e.f, x)]⟩ : Ex) else none) = some z := hz
    split at hz
    · cases hz
      exact ⟨rfl, rfl, by assumption⟩
    · cases hz
/-- which stands under which -/
def suB (exs : List Xd) (K : PySem.W.Frag) : Bool := (List.range exs.length).all fun a => (List.range exs.length).all fun b => match exs[a]?, exs[b]? with
  | some x, some y => decide (PySem.W.exmOne K (.ref (He.ga K x.y)) (.ref (He.ga K y.y)) = some (under exs 8 a b))
  | _, _ => false
theorem suB_ok (e : suB gc.exs K = true) : SuOk (kgOf gc K) (suOf gc.exs) := by
  intro a b q A B h1 h2 h3
  have h2 : clOf gc K a = some A := h2
  have h3 : clOf gc K b = some B := h3
  have lt : a < gc.exs.length ∧ b < gc.exs.length := by
    unfold suOf at h1
    split at h1
    · rename_i hh
      rw [Bool.and_eq_true] at hh
      exact ⟨Nat.le_of_ble_eq_true hh.1, Nat.le_of_ble_eq_true hh.2⟩
    · cases h1
  obtain ⟨x, x1⟩ : ∃ x, gc.exs[a]? = some x := ⟨_, List.getElem?_eq_getElem lt.1⟩
  obtain ⟨y, y1⟩ : ∃ y, gc.exs[b]? = some y := ⟨_, List.getElem?_eq_getElem lt.2⟩
  unfold clOf at h2 h3
  rw [x1] at h2
  rw [y1] at h3
  cases h2
  cases h3
  have la := (List.getElem?_eq_some_iff.mp x1).1
  have lb := (List.getElem?_eq_some_iff.mp y1).1
  have z := List.all_eq_true.mp (List.all_eq_true.mp e a (List.mem_range.mpr la)) b (List.mem_range.mpr lb)
  rw [x1, y1] at z
  unfold suOf at h1
  split at h1
  · cases h1
    exact of_decide_eq_true z
  · cases h1
end
/-! ### the Hook -/
def asN (g : Addr → Option Obj) (n : Nat) : List Addr := cStatics :: He.asD g n
/-- a property's getter -/
def fnWA (K : PySem.W.Frag) (a : Addr) : He.FnW := match K.lookup a with
  | some ⟨_, _, .func fd, _⟩ => some (fd.name, fd.qualname, fd.params, fd.body, fd.scope, fd.globals, fd.closure, fd.builtins)
  | _ => none
def okA (K : PySem.W.Frag) (a : Addr) (d : He.DefD) : Bool := PySem.W.keepIn K (.ref a) && (match K.lookup a with
  | some ⟨_, _, .func fd, _⟩ => PySem.W.codeIn K fd.code d.qual && (He.dflB K fd.defaults (d.dvs K) && He.kwdB K fd.kwdefaults (d.kws K))
  | _ => false)
theorem funA {K : PySem.W.Frag} {a : Addr} {d : He.DefD} (e : fnWA K a = d.val) (c : okA K a d = true) : ∃ fd, FunD K d.name d.qual d.params d.body d.scope (d.dvs K) (d.kws K) a fd := by
  obtain ⟨kp, c2⟩ := He.ba c
  unfold fnWA at e
  cases q : K.lookup a with
  | none =>
    rw [q] at c2
    cases c2
  | some o =>
    obtain ⟨oc, od, dt, osl⟩ := o
    rw [q] at c2 e
    cases dt with
    | func fd =>
      obtain ⟨n1, n2, n3, n4, n5, n6, n7, n8, n9, n10, n11, n12, n13, n14, n15⟩ := fd
      have e2 : (some (n1, n2, n3, n4, n5, n6, n7, n15) : He.FnW) = some (d.name, d.qual, d.params, .stmts d.body, d.scope, mainGlobals, [], builtinsNs) := e
      simp only [Option.some.injEq, Prod.mk.injEq] at e2
      obtain ⟨h1, h2, h3, h4, h5, h6, h7, h8⟩ := e2
      subst h1 h2 h3 h4 h5 h6 h7 h8
      have c3 : (PySem.W.codeIn K n13 d.qual && (He.dflB K n8 (d.dvs K) && He.kwdB K n9 (d.kws K))) = true := c2
      obtain ⟨k1, k2⟩ := He.ba c3
      obtain ⟨k3, k4⟩ := He.ba k2
      exact ⟨_, ⟨oc, od, n8, n9, n10, n11, n12, n13, n14, osl, rfl, q, k1, He.dflB_ok k3, He.kwdB_ok k4⟩, kp⟩
    | _ => cases c2
/-- scalar constants -/
def pDv : P → He.Dv
  | .bl b => .bl b
  | .int i => .int i
  | .str x => .str x
  | _ => .non
/-- a def, called by its own name -/
def ddOf (fd : Fd) : He.DefD := ⟨fd.at_.key, fd.x, fd.qual, fd.params, fd.body, fd.scope, fd.dps.map pDv, []⟩
abbrev AlN : Type := He.AlD × Bool × List EnW × List He.FnW
structure SaysN (con : List (Str × P)) (fa : List He.Fa) (fn : List He.DefD) (tf : List He.Defn) (ex : PySem.W.Frag → Bool) (en : List En) (gt : List Fd) (h : Heap) (K : PySem.W.Frag) : Prop where
  d : He.SaysD fa fn K
  c : consB con K = true
  x : ex K = true
  e : en.map (fun e => enW K e.y) = en.map En.val
  g : gt.map (fun fd => fnWA K (adOf K fd.at_)) = gt.map fun fd => (ddOf fd).val
  gk : (gt.all fun fd => okA K (adOf K fd.at_) (ddOf fd)) = true
  hd : ∀ p ∈ tf, PySem.W.codeHdIn K (He.cT K p).1 (He.cT K p).2 = true
  out : ∀ p ∈ tf, K.lookup (He.cT K p).2 = none
  empty : ∀ p ∈ tf, h.get? (He.cT K p).2 = some tab0
  one : (tf.map fun p => (He.cT K p).2).Nodup
def obsN (con : List (Str × P)) (fa : List He.Fa) (fn : List He.DefD) (tf : List He.Defn) (ex : PySem.W.Frag → Bool) (en : List En) (gt : List Fd) (g : Addr → Option Obj) (K : PySem.W.Frag) : AlN :=
  (He.obsD fa fn K, consB con K && ex K && He.tabsB g tf K && decide ((tf.map fun p => (He.cT K p).2).Nodup) && gt.all fun fd => okA K (adOf K fd.at_) (ddOf fd), en.map fun e => enW K e.y, gt.map fun fd => fnWA K (adOf K fd.at_))
def obsNG (n : Nat) (con : List (Str × P)) (fa : List He.Fa) (fn : List He.DefD) (tf : List He.Defn) (ex : PySem.W.Frag → Bool) (en : List En) (gt : List Fd) (g : Addr → Option Obj) : AlN := obsN con fa fn tf ex en gt g (He.frT g (asN g n))
def valN (fn : List He.DefD) (en : List En) (gt : List Fd) : AlN := (He.valD fn, true, en.map En.val, gt.map fun fd => (ddOf fd).val)
theorem saysN_of {n : Nat} {con : List (Str × P)} {fa : List He.Fa} {fn : List He.DefD} {tf : List He.Defn} {ex : PySem.W.Frag → Bool} {en : List En} {gt : List Fd} {h : Heap} (e : obsNG n con fa fn tf ex en gt h.get? = valN fn en gt) : SaysN con fa fn tf ex en gt h (He.frT h.get? (asN h.get? n)) := by
  generalize hK : He.frT h.get? (asN h.get? n) = K
  have e0 : obsN con fa fn tf ex en gt h.get? K = valN fn en gt := by rw [← hK]; exact e
  have e1 : He.obsD fa fn K = He.valD fn := congrArg (fun z : AlN => z.1) e0
  have e2 : (consB con K && ex K && He.tabsB h.get? tf K && decide ((tf.map fun p => (He.cT K p).2).Nodup) && gt.all fun fd => okA K (adOf K fd.at_) (ddOf fd)) = true := congrArg (fun z : AlN => z.2.1) e0
  have e3 : en.map (fun e => enW K e.y) = en.map En.val := congrArg (fun z : AlN => z.2.2.1) e0
  have e4 : gt.map (fun fd => fnWA K (adOf K fd.at_)) = gt.map (fun fd => (ddOf fd).val) := congrArg (fun z : AlN => z.2.2.2) e0
  simp only [Bool.and_eq_true, decide_eq_true_eq] at e2
  obtain ⟨⟨⟨⟨h1, h2⟩, h3⟩, h4⟩, h5⟩ := e2
  have each : ∀ p ∈ tf, PySem.W.codeHdIn K (He.cT K p).1 (He.cT K p).2 = true ∧ ∃ o, h.get? (He.cT K p).2 = some o ∧ He.emptyTab o = true := by
    intro p hp
    have z := List.all_eq_true.mp h3 p hp
    rw [Bool.and_eq_true] at z
    refine ⟨z.1, ?_⟩
    have z2 := z.2
    cases q : h.get? (He.cT K p).2 with
    | none => rw [q] at z2; cases z2
    | some o =>
      rw [q] at z2
      exact ⟨o, rfl, z2⟩
  exact ⟨e1, h1, h2, e3, e4, h5, fun p hp => (each p hp).1, fun p hp => by
    obtain ⟨_, o, q, z⟩ := each p hp
    rw [← hK] at q ⊢
    exact He.frT_none q z, fun p hp => by
    obtain ⟨_, o, q, z⟩ := each p hp
    rw [q, He.emptyTab_eq z], h4⟩
def hookN (n : Nat) (con : List (Str × P)) (fa : List He.Fa) (fn : List He.DefD) (tf : List He.Defn) (ex : PySem.W.Frag → Bool) (en : List En) (gt : List Fd) : PySem.W.Hook where
  α := AlN
  obs := fun s => obsNG n con fa fn tf ex en gt s.heap.get?
  val := fun _ => valN fn en gt
  says := fun _ h => ∃ K : PySem.W.Frag, K.In h ∧ SaysN con fa fn tf ex en gt h K
  of := fun _ _ e => ⟨_, He.frT_in, saysN_of e⟩
  keeps := fun _ _ _ ⟨K, hK, c⟩ k => ⟨K, PySem.W.Frag.In.keeps hK k, { c with empty := fun p hp => k _ _ (c.empty p hp) }⟩
theorem obsNG_eq {n : Nat} {con : List (Str × P)} {fa : List He.Fa} {fn : List He.DefD} {tf : List He.Defn} {ex : PySem.W.Frag → Bool} {en : List En} {gt : List Fd} {g : Addr → Option Obj} {s : Shared} (h : ∀ a, g a = s.heap.get? a) : obsNG n con fa fn tf ex en gt g = (hookN n con fa fn tf ex en gt).obs s := by
  obtain rfl : g = s.heap.get? := funext h
  rfl
/-! ### the list of the defs -/
def Each (Q : Nat → Fd → Prop) : List Fd → Nat → Prop
  | [], _ => True
  | d :: r, i => Q i d ∧ Each Q r (i + 1)
theorem Each.get {Q : Nat → Fd → Prop} : ∀ {l : List Fd} {b i : Nat} {d : Fd}, Each Q l b → l[i]? = some d → Q (b + i) d
  | d :: r, b, 0, e, h, z => by
    cases z
    exact h.1
  | d :: r, b, i + 1, e, h, z => by
    have q := Each.get (i := i) h.2 (by simpa using z)
    rw [show b + (i + 1) = b + 1 + i from by omega]
    exact q
  | [], _, _, _, _, z => by simp at z
def scalP : P → Bool
  | .non => true
  | .bl _ => true
  | .int _ => true
  | .str _ => true
  | _ => false
theorem scal_kps {K : PySem.W.Frag} {kk : Kg} : ∀ {l : List P}, l.all scalP = true → KPs kk ((l.map pDv).map (He.Dv.v K)) l
  | [], _ => fun _ _ => .nil
  | p :: l, h => fun g H => by
    rw [List.all_cons, Bool.and_eq_true] at h
    refine .cons ?_ (scal_kps h.2 g H)
    cases p with
    | non => exact .non
    | bl b => exact .bl b
    | int i => exact .int i
    | str x => exact .str x
    | _ => cases h.1
section
variable {K : PySem.W.Frag} {mg : Str → Option Value} {fd : Fd}
/-- how a def binds: none of its parameters has a default -/
def BindN (fd : Fd) : Prop := ∀ (kV doc pm : Value) (an : Option Addr) (cdv ct : Value) (us : List Value), us.length = fd.ps.length → bindArgs (PySem.W.fnOf fd.x fd.qual fd.params fd.body fd.scope .none kV doc pm an cdv ct) ⟨us, []⟩ = pure (fd.ps.zip us)
/-- n of them are written, the defaults behind the first m fill up -/
def BindD (fd : Fd) (n m : Nat) : Prop := ∀ (T : Addr) (kV doc pm : Value) (an : Option Addr) (cdv ct : Value) (us its : List Value), us.length = n → its.length = fd.dps.length →
  ∃ k, bindArgs (PySem.W.fnOf fd.x fd.qual fd.params fd.body fd.scope (.ref T) kV doc pm an cdv ct) ⟨us, []⟩ = seqItems? (.ref T) >>= k ∧ k (some its.toArray) = pure (fd.ps.zip (us ++ its.drop m))
theorem df_none {fa : FuncData} {f : Addr} (F : FunD K fd.x fd.qual fd.params fd.body fd.scope [] [] f fa) (hm : fd.at_.isTop = true → mg fd.x = some (.ref f)) (ha : f = adOf K fd.at_) (hk : fd.tab = true → He.fAd K fd.at_.key = f) (sc : FnScope fd.N fd.ps fd.scope) (hd : fd.dps = []) (b : BindN fd) : Df K mg fd f fa :=
  ⟨ha, hk, hm, F.kp, sc, ⟨_, _, F⟩, fun m hm => ⟨[], [], by rw [hd]; intro kk _ g H; rw [List.drop_nil]; exact .nil, .nil, F.bindsN b⟩⟩
theorem df_some {fa : FuncData} {f : Addr} (F : FunD K fd.x fd.qual fd.params fd.body fd.scope ((fd.dps.map pDv).map (He.Dv.v K)) [] f fa) (hm : fd.at_.isTop = true → mg fd.x = some (.ref f)) (ha : f = adOf K fd.at_) (hk : fd.tab = true → He.fAd K fd.at_.key = f) (sc : FnScope fd.N fd.ps fd.scope) (hd : fd.dps ≠ []) (hs : fd.dps.all scalP = true)
    (hl : fd.dps.length ≤ fd.ps.length) (b : ∀ m, m ≤ fd.dps.length → BindD fd (fd.ps.length - (fd.dps.length - m)) m) : Df K mg fd f fa := by
  refine ⟨ha, hk, hm, F.kp, sc, ⟨_, _, F⟩, fun m hm => ?_⟩
  have hne : (fd.dps.map pDv).map (He.Dv.v K) ≠ [] := by simpa using hd
  obtain ⟨ds, h1, h2⟩ := F.binds1 (ps := fd.ps) (fd.ps.length - (fd.dps.length - m)) m hne (by rw [List.length_map, List.length_map]; omega) fun T kV doc pm an cdv ct us its l1 l2 => b m hm T kV doc pm an cdv ct us its l1 (by rw [List.length_map, List.length_map] at l2; exact l2)
  refine ⟨_, ds, ?_, h1, h2⟩
  intro kk _
  rw [← List.map_drop, ← List.map_drop]
  exact scal_kps (List.all_eq_true.mpr fun p hp => List.all_eq_true.mp hs p (List.mem_of_mem_drop hp))
end
/-! ### own classes -/
def eqQ {α : Type} [DecidableEq α] (a b : α) : Bool := decide (a = b)
def propB (K : PySem.W.Frag) (c f : Str) : Bool := decide (PySem.W.findIn K (.ref (He.ga K c)) f = some (some (.ref (He.fAd K (c, some f))))) && decide (PySem.W.specialIn K (.ref (He.fAd K (c, some f))) "__get__" = some (some (.builtin "property.__get__"))) &&
  decide (PySem.W.takesIn K (.ref (He.fAd K (c, some f))) = some true) && (match PySem.W.recIn K (He.fAd K (c, some f)) "property" with
    | some (.ref _ :: _) => true
    | _ => false)
theorem propB_ok {K : PySem.W.Frag} {c f : Str} (h : propB K c f = true) : PropOf K (He.ga K c) f (He.fAd K (c, some f)) (adOf K (.get c f)) := by
  unfold propB at h
  simp only [Bool.and_eq_true, decide_eq_true_eq] at h
  obtain ⟨⟨⟨h1, h2⟩, h3⟩, h4⟩ := h
  refine ⟨h1, h2, h3, ?_⟩
  split at h4
  · rename_i g r e
    have ea : adOf K (.get c f) = g := by
      show (match PySem.W.recIn K (He.fAd K (c, some f)) "property" with
        | some (.ref g :: _) => g
        | _ => 0) = g
      rw [e]
    rw [ea]
    exact ⟨r, e⟩
  · cases h4
def tyB (K : PySem.W.Frag) (C : Addr) : Bool := decide (PySem.W.findIn K (.ref C) "__class__" = some (some (.builtin "object.__class__"))) && decide (PySem.W.specialIn K (.builtin "object.__class__") "__get__" = some (some (.builtin "getset_descriptor.__get__"))) &&
  decide (PySem.W.takesIn K (.builtin "object.__class__") = some true) && decide (PySem.W.mroIn K C (.type "object") = some true)
def cdB (K : PySem.W.Frag) (d : Cd) : Bool := (He.Fa.cls d.y).ok K && (d.fs.all fun f => (He.Fa.noat d.y f).ok K) && (d.ms.all fun q => (He.Fa.meth d.y q.1).ok K) && (d.prs.all fun q => propB K d.y q.1) &&
  (d.mkr.isNone || ((He.Fa.glo d.y).ok K && (He.Fa.mkr d.y).ok K && tyB K (He.ga K d.y) && kindsT.all fun T => decide (PySem.W.kitOne K (.type T) (.ref (He.ga K d.y)) = some false)))
/-- all classes, and how they stand to one another -/
def cdsB (cls : List Cd) (K : PySem.W.Frag) : Bool := cls.all (cdB K) && (List.range cls.length).all fun i => (List.range cls.length).all fun i' => match cls[i]?, cls[i']? with
  | some d, some d' => d.mkr.isNone || d'.mkr.isNone || decide (PySem.W.kitOne K (.ref (He.ga K d'.y)) (.ref (He.ga K d.y)) = some (Nat.beq i i'))
  | _, _ => false
/-- the numbers of the defs are right -/
def gcB (gc : Gc) : Bool := (List.range gc.cls.length).all fun n => match gc.cls[n]? with
  | some d => (d.ms.all fun q => match gc.fds[q.2]? with
      | some fd => fd.ini.isNone && decide (fd.at_ = .fn (d.y, some q.1))
      | none => false) && (d.prs.all fun q => match gc.fds[q.2]? with
      | some fd => fd.ini.isNone && decide (fd.at_ = .get d.y q.1)
      | none => false) && (match d.mkr with
      | none => true
      | some i => match gc.fds[i]? with
        | some fd => decide (fd.ini = some (gc.exs.length + n)) && decide (fd.at_ = .fn (d.y, some iniN)) && !fd.ps.isEmpty && fd.fs.all d.fs.contains
        | none => false)
  | none => false
theorem look_in {α : Type} : ∀ {l : List (Str × α)} {x : Str} {p : α}, l.lookup x = some p → (x, p) ∈ l
  | (y, q) :: r, x, p, h => by
    rw [List.lookup_cons] at h
    cases e : x == y with
    | true =>
      rw [e] at h
      cases h
      rw [eq_of_beq e]
      exact List.mem_cons_self
    | false =>
      rw [e] at h
      exact List.mem_cons_of_mem _ (look_in h)
section
variable {K : PySem.W.Frag} {h : Heap} {mg : Str → Option Value} {gc : Gc}
theorem cd_at {i : Nat} {d : Cd} (c : cdsB gc.cls K = true) (hd : gc.cls[i]? = some d) : cdB K d = true := by
  unfold cdsB at c
  rw [Bool.and_eq_true] at c
  exact List.all_eq_true.mp c.1 d (List.mem_of_getElem? hd)
theorem cw_of (X : K.In h) (G : h.Ns mainGlobals mg) (gb : gcB gc = true) (c : cdsB gc.cls K = true) (i : Nat) (d : Cd) (hd : gc.cls[i]? = some d) : Cw gc K mg (gc.exs.length + i) d := by
  have b := cd_at c hd
  have li := (List.getElem?_eq_some_iff.mp hd).1
  have n := List.all_eq_true.mp gb i (List.mem_range.mpr li)
  rw [hd] at n
  dsimp only at n
  unfold cdB at b
  simp only [Bool.and_eq_true] at b n
  obtain ⟨⟨⟨⟨b1, b2⟩, b3⟩, b4⟩, b5⟩ := b
  obtain ⟨⟨n1, n2⟩, n3⟩ := n
  have cl := He.cls_ok b1
  have some_ : d.mkr.isSome = true → (He.Fa.glo d.y).ok K = true ∧ (He.Fa.mkr d.y).ok K = true ∧ tyB K (He.ga K d.y) = true := fun z => by
    rw [Bool.or_eq_true] at b5
    rcases b5 with q | q
    · rw [Option.isNone_iff_eq_none.mp q] at z
      cases z
    · simp only [Bool.and_eq_true] at q
      exact ⟨q.1.1.1, q.1.1.2, q.1.2⟩
  refine ⟨fun z => He.glo_ok X G (some_ z).1, cl, fun z => ?_, fun f hf => He.noat_ok (List.all_eq_true.mp b2 f hf), fun m j hm => ?_, fun f j hf => ?_, fun j hj => ?_⟩
  · have t := (some_ z).2.2
    unfold tyB at t
    simp only [Bool.and_eq_true, decide_eq_true_eq] at t
    exact ⟨cl, t.1.1.1, t.1.1.2, t.1.2, t.2⟩
  · have hin := look_in hm
    have q1 := List.all_eq_true.mp n1 _ hin
    have q2 := List.all_eq_true.mp b3 _ hin
    dsimp only at q1
    split at q1
    · rename_i fd e
      simp only [Bool.and_eq_true, decide_eq_true_eq] at q1
      refine ⟨fd, e, Option.isNone_iff_eq_none.mp q1.1, ?_⟩
      rw [q1.2]
      exact He.meth_ok q2
    · cases q1
  · have hin := look_in hf
    have q1 := List.all_eq_true.mp n2 _ hin
    have q2 := List.all_eq_true.mp b4 _ hin
    dsimp only at q1
    split at q1
    · rename_i fd e
      simp only [Bool.and_eq_true, decide_eq_true_eq] at q1
      refine ⟨fd, He.fAd K (d.y, some f), e, Option.isNone_iff_eq_none.mp q1.1, ?_⟩
      rw [q1.2]
      exact propB_ok q2
    · cases q1
  · rw [hj] at n3
    dsimp only at n3
    split at n3
    · rename_i fd e
      simp only [Bool.and_eq_true, decide_eq_true_eq, Bool.not_eq_true'] at n3
      obtain ⟨⟨⟨m1, m2⟩, m3⟩, m4⟩ := n3
      refine ⟨fd, fd.ps.length - 1, e, m1, ?_, ?_, fun f hf => ?_⟩
      · cases q : fd.ps with
        | nil => rw [q] at m3; cases m3
        | cons _ _ => rfl
      · rw [m2]
        exact He.mkr_ok (some_ (by rw [hj]; rfl)).2.1
      · have z := List.all_eq_true.mp m4 f hf
        exact He.noat_ok (List.all_eq_true.mp b2 f (by simpa using z))
    · cases n3
theorem isB_of (c : cdsB gc.cls K = true) (i : Nat) (d : Cd) (hd : gc.cls[i]? = some d) (z : d.mkr.isSome = true) (T : String) (hT : T ∈ kindsT) : PySem.W.kitOne K (.type T) (.ref (He.ga K d.y)) = some false := by
  have b := cd_at c hd
  unfold cdB at b
  rw [Bool.and_eq_true, Bool.or_eq_true] at b
  rcases b.2 with q | q
  · rw [Option.isNone_iff_eq_none.mp q] at z
    cases z
  · rw [Bool.and_eq_true] at q
    exact of_decide_eq_true (List.all_eq_true.mp q.2 T hT)
theorem isO_of (c : cdsB gc.cls K = true) (i i' : Nat) (d d' : Cd) (hd : gc.cls[i]? = some d) (hd' : gc.cls[i']? = some d') (z : d.mkr.isSome = true) (z' : d'.mkr.isSome = true) : PySem.W.kitOne K (.ref (He.ga K d'.y)) (.ref (He.ga K d.y)) = some (Nat.beq i i') := by
  unfold cdsB at c
  rw [Bool.and_eq_true] at c
  have q := List.all_eq_true.mp (List.all_eq_true.mp c.2 i (List.mem_range.mpr (List.getElem?_eq_some_iff.mp hd).1)) i' (List.mem_range.mpr (List.getElem?_eq_some_iff.mp hd').1)
  rw [hd, hd'] at q
  dsimp only at q
  simp only [Bool.or_eq_true, decide_eq_true_eq] at q
  rcases q with (q | q) | q
  · rw [Option.isNone_iff_eq_none.mp q] at z; cases z
  · rw [Option.isNone_iff_eq_none.mp q] at z'; cases z'
  · exact q
end
theorem SaysN.get {con : List (Str × P)} {fa : List He.Fa} {fn : List He.DefD} {tf : List He.Defn} {ex : PySem.W.Frag → Bool} {en : List En} {gt : List Fd} {h : Heap} {K : PySem.W.Frag} (c : SaysN con fa fn tf ex en gt h K) (i : Nat) {fd : Fd} (hi : gt[i]? = some fd) : ∃ da, FunD K fd.x fd.qual fd.params fd.body fd.scope ((ddOf fd).dvs K) ((ddOf fd).kws K) (adOf K fd.at_) da := by
  have e := congrArg (fun l : List He.FnW => l[i]?) c.g
  simp only [List.getElem?_map, hi, Option.map_some] at e
  exact funA (d := ddOf fd) (Option.some.inj e) (List.all_eq_true.mp c.gk fd (List.mem_of_getElem? hi))
end Mn
/-! Mr9: the lambdas of a text, the __init__ of an exception's class: where they stand. -/
namespace Mn
open L2 PyProof.Rows PySem.Spec PySem
abbrev LamW := Arguments × Expr × Scope × Pos
def lamsO (f : Expr → List LamW) : Option Expr → List LamW
  | none => []
  | some e => f e
def lamsE : Nat → Expr → List LamW
  | 0, _ => []
  | m + 1, e => match e with
    | .Lambda a b s p => [(a, b, s, p)]
    | .BoolOp _ vs _ => vs.flatMap (lamsE m)
    | .BinOp a _ b _ => lamsE m a ++ lamsE m b
    | .UnaryOp _ a _ => lamsE m a
    | .IfExp a b c _ => lamsE m a ++ lamsE m b ++ lamsE m c
    | .Dict ks vs _ => ks.flatMap (lamsO (lamsE m)) ++ vs.flatMap (lamsE m)
    | .ListComp a gs _ _ => lamsE m a ++ gs.flatMap fun g => lamsE m g.iter ++ g.ifs.flatMap (lamsE m)
    | .Compare a _ bs _ => lamsE m a ++ bs.flatMap (lamsE m)
    | .Call f as ks _ => lamsE m f ++ as.flatMap (lamsE m) ++ ks.flatMap fun k => lamsE m k.value
    | .Attribute a _ _ => lamsE m a
    | .Subscript a b _ => lamsE m a ++ lamsE m b
    | .Starred a _ => lamsE m a
    | .List es _ => es.flatMap (lamsE m)
    | .Tuple es _ _ => es.flatMap (lamsE m)
    | _ => []
def lamsS : Nat → Stmt → List LamW
  | 0, _ => []
  | m + 1, st => match st with
    | .Return e _ => lamsO (lamsE 40) e
    | .Assign _ e _ => lamsE 40 e
    | .AugAssign _ _ e _ => lamsE 40 e
    | .For _ it a b _ => lamsE 40 it ++ a.flatMap (lamsS m) ++ b.flatMap (lamsS m)
    | .While t a b _ => lamsE 40 t ++ a.flatMap (lamsS m) ++ b.flatMap (lamsS m)
    | .If t a b _ => lamsE 40 t ++ a.flatMap (lamsS m) ++ b.flatMap (lamsS m)
    | .Expr e _ => lamsE 40 e
    | .Try a _ _ _ _ => a.flatMap (lamsS m)
    | _ => []
/-- the lambda that stands there -/
def lamAt (body : List Stmt) (qual : Str) (line col : Nat) (ps fr : List Str) : LamT := match (body.flatMap (lamsS 20)).find? fun q => Nat.beq q.2.2.2.line line && Nat.beq q.2.2.2.col col with
  | some (a, b, s, _) => ⟨a, b, s, qual ++ lamSuf ++ "<lambda>", ps, fr⟩
  | none => ⟨⟨[], [], none, [], [], none, []⟩, .Constant .none 0 ⟨0, 0, 0, 0⟩, ⟨.function, [], false, false, []⟩, "", ps, fr⟩
def lamIx : List (Nat × Nat × Nat × List Nat) → Pos → Option (Nat × List Nat)
  | [], _ => none
  | (l, c, f, sl) :: r, p => if Nat.beq l p.line && Nat.beq c p.col then some (f, sl) else lamIx r p
/-- the __init__ of a class of the top -/
def clsBody : Stmt → List Stmt
  | .ClassDef _ _ _ b _ _ _ _ _ _ _ => b
  | _ => []
def pos0 : Pos := ⟨0, 0, 0, 0⟩
def enOf (y : Str) (st : Stmt) : En := match defBody st with
  | [.Expr (.Call (.Attribute (.Call (.Name _ p0) [] [] p1) _ p2) [msg] [] p3) p4, .Assign [.Attribute (.Name sf p5) f p6] (.Name a p7) p8] =>
    ⟨y, y ++ "." ++ iniN, sf, a, f, msg, defArgs st, defScope st, fun i => [p0, p1, p2, p3, p4, p5, p6, p7, p8].getD i pos0⟩
  | _ => ⟨y, "", "", "", "", .Constant .none 0 pos0, defArgs st, defScope st, fun _ => pos0⟩
def EachL (Q : Ld → Prop) : List Ld → Prop
  | [] => True
  | d :: r => Q d ∧ EachL Q r
theorem EachL.get {Q : Ld → Prop} : ∀ {l : List Ld} {i : Nat} {d : Ld}, EachL Q l → l[i]? = some d → Q d
  | d :: r, 0, e, h, z => by
    cases z
    exact h.1
  | d :: r, i + 1, e, h, z => EachL.get (i := i) h.2 (by simpa using z)
  | [], _, _, _, z => by simp at z
def EachX (Q : Nat → Xd → Prop) : List Xd → Nat → Prop
  | [], _ => True
  | d :: r, i => Q i d ∧ EachX Q r (i + 1)
theorem EachX.get {Q : Nat → Xd → Prop} : ∀ {l : List Xd} {b i : Nat} {d : Xd}, EachX Q l b → l[i]? = some d → Q (b + i) d
  | d :: r, b, 0, e, h, z => by
    cases z
    exact h.1
  | d :: r, b, i + 1, e, h, z => by
    have q := EachX.get (i := i) h.2 (by simpa using z)
    rw [show b + (i + 1) = b + 1 + i from by omega]
    exact q
  | [], _, _, _, _, z => by simp at z
end Mn
/-! the defs of the text (printed by gen.py) -/
namespace Lw28
open L2 Mn PyProof.Rows PySem.Spec PySem
def top (i : Nat) : Stmt := PySem.Challenge.pw_hushworks_k28_whole_first_faults_of_work.main.body.getD i (.Pass ⟨0, 0, 0, 0⟩)
def fdOf (i : Nat) (x : Str) (ps N : List Str) (dps : List P) (ow : List (Nat × Nat × Nat × Nat)) (lm : List (Nat × Nat × Nat × List Nat)) (tab : Bool) : Fd := ⟨x, .fn (x, none), none, 0, [], x, defArgs (top i), defBody (top i), defScope (top i), ps, N, dps, fun p => ow.contains (p.line, p.col, p.endLine, p.endCol), lamIx lm, tab⟩
def mst (i j : Nat) : Stmt := (clsBody (top i)).getD j (.Pass pos0)
def mdOf (i j : Nat) (x c : Str) (a : Dk) (ini : Option Nat) (pre : Nat) (fs ps N : List Str) (dps : List P) (ow : List (Nat × Nat × Nat × Nat)) (lm : List (Nat × Nat × Nat × List Nat)) (tab : Bool) : Fd := ⟨x, a, ini, pre, fs, c ++ "." ++ x, defArgs (mst i j), defBody (mst i j), defScope (mst i j), ps, N, dps, fun p => ow.contains (p.line, p.col, p.endLine, p.endCol), lamIx lm, tab⟩
def d0 : Fd := fdOf 0 "_wall" ["k"] ["k"] [] [] [] false
def d1 : Fd := fdOf 8 "is_integer" ["value"] ["value"] [] [] [] false
def d2 : Fd := fdOf 9 "is_name" ["value"] ["value", "sign"] [] [] [] false
def d3 : Fd := fdOf 10 "common_divisor" ["one", "other"] ["one", "other"] [] [] [] false
def d4 : Fd := fdOf 11 "is_number" ["value"] ["value", "one"] [] [] [] false
def d5 : Fd := fdOf 13 "is_plain_row" ["width", "value"] ["width", "value", "one"] [] [] [] false
def d6 : Fd := fdOf 14 "is_plain_table" ["height", "width", "value"] ["height", "width", "value", "row"] [] [] [] false
def d7 : Fd := fdOf 15 "columns_of" ["table", "width"] ["table", "width", "index", "line"] [] [] [] false
def d8 : Fd := fdOf 19 "are_names" ["value", "least", "most"] ["value", "least", "most", "name", "one", "other"] [] [] [] false
def d9 : Fd := fdOf 20 "names_fault" ["places", "hands"] ["places", "hands", "both", "name"] [] [] [] false
def d10 : Fd := fdOf 21 "works_fault" ["places", "hands", "table"] ["places", "hands", "table", "fault"] [] [] [] false
def d11 : Fd := fdOf 24 "_law_dice" ["script", "spot"] ["script", "spot", "cell", "great", "seed"] [] [(120, 11, 120, 46)] [] false
def d12 : Fd := fdOf 25 "_law_roll" ["dice", "total"] ["dice", "total", "found", "one", "two"] [] [] [] false
def d13 : Fd := fdOf 26 "_law_pick" ["dice", "things"] ["dice", "things"] [] [] [] false
def d14 : Fd := fdOf 27 "_law_fr" ["top", "bottom"] ["top", "bottom", "one", "other", "sign"] [] [] [] false
def d15 : Fd := fdOf 28 "_law_is_number" ["value"] ["value", "one"] [] [] [] false
def d16 : Fd := fdOf 29 "_law_is_row" ["width", "value"] ["width", "value", "one"] [] [] [] false
def d17 : Fd := fdOf 30 "_law_is_table" ["height", "width", "value"] ["height", "width", "value", "one"] [] [] [] false
def d18 : Fd := fdOf 31 "_law_oa_works" ["dice", "places", "hands"] ["dice", "places", "hands", "some", "table", "at", "spot"] [] [] [] false
def d19 : Fd := fdOf 32 "_law_is_name" ["value"] ["value", "sign"] [] [] [] false
def d20 : Fd := fdOf 33 "_law_are_names" ["value", "least", "most"] ["value", "least", "most", "name", "one", "other"] [] [] [] false
def d21 : Fd := fdOf 34 "_law_fault" ["places", "hands", "table"] ["places", "hands", "table", "both", "name"] [] [] [] false
def d22 : Fd := fdOf 35 "_law_bent_names" ["dice", "names"] ["dice", "names", "near", "at"] [] [] [] false
def d23 : Fd := fdOf 36 "_law_bent_table" ["dice", "table"] ["dice", "table", "near", "row", "one"] [] [] [] false
def d24 : Fd := fdOf 37 "_law_made" ["places", "hands", "table"] ["places", "hands", "table"] [] [] [] false
def d25 : Fd := fdOf 38 "_law_right" ["dice"] ["dice", "plain", "places", "hands", "table", "due"] [] [] [] false
def d26 : Fd := fdOf 39 "law" ["script"] ["script", "spot", "dice", "turn", "one", "told"] [] [] [] false
def d27 : Fd := mdOf 22 0 "__init__" "Works" (.fn ("Works", some "__init__")) (some 2) 2 ["own_places", "own_hands", "own_table", "own_width", "own_wide", "own_free", "own_columns"] ["self", "places", "hands", "table"] ["self", "places", "hands", "table", "fault", "row"] [] [] [] false
def d28 : Fd := mdOf 22 1 "places" "Works" (.get "Works" "places") none 0 [] ["self"] ["self"] [] [] [] false
def d29 : Fd := mdOf 22 2 "hands" "Works" (.get "Works" "hands") none 0 [] ["self"] ["self"] [] [] [] false
def d30 : Fd := mdOf 22 3 "table" "Works" (.get "Works" "table") none 0 [] ["self"] ["self"] [] [] [] false
def d31 : Fd := mdOf 22 4 "width" "Works" (.get "Works" "width") none 0 [] ["self"] ["self"] [] [] [] false
def d32 : Fd := mdOf 22 5 "wide" "Works" (.get "Works" "wide") none 0 [] ["self"] ["self"] [] [] [] false
def d33 : Fd := mdOf 22 6 "free_table" "Works" (.get "Works" "free_table") none 0 [] ["self"] ["self"] [] [] [] false
def d34 : Fd := mdOf 22 7 "columns" "Works" (.get "Works" "columns") none 0 [] ["self"] ["self"] [] [] [] false
def d35 : Fd := mdOf 22 8 "next" "Works" (.fn ("Works", some "next")) none 0 [] ["self", "standing", "turn"] ["self", "standing", "turn"] [] [] [] false
def d36 : Fd := mdOf 22 9 "without" "Works" (.fn ("Works", some "without")) none 0 [] ["self", "hands"] ["self", "hands"] [] [] [] false
def d37 : Fd := mdOf 22 10 "renamed" "Works" (.fn ("Works", some "renamed")) none 0 [] ["self", "names"] ["self", "names"] [] [] [] false
def d38 : Fd := mdOf 22 11 "recast" "Works" (.fn ("Works", some "recast")) none 0 [] ["self", "table", "back"] ["self", "table", "back"] [] [] [] false
def d39 : Fd := mdOf 22 12 "turned" "Works" (.fn ("Works", some "turned")) none 0 [] ["self", "table", "back"] ["self", "table", "back"] [] [] [] false
def d40 : Fd := mdOf 22 13 "__eq__" "Works" (.fn ("Works", some "__eq__")) none 0 [] ["self", "other"] ["self", "other"] [] [] [] false
def d41 : Fd := mdOf 22 14 "__str__" "Works" (.fn ("Works", some "__str__")) none 0 [] ["self"] ["self"] [] [] [] false
def lds : List Ld := []
def exs : List Xd := [⟨"HushError", none, none⟩, ⟨"InvalidWorks", none, some 0⟩]
def en : List En := []
def file : Str := PySem.Challenge.pw_hushworks_k28_whole_first_faults_of_work.main.file
def clss : List Cd := [⟨"Works", some 27, [("next", 35), ("without", 36), ("renamed", 37), ("recast", 38), ("turned", 39), ("__eq__", 40), ("__str__", 41)], [("places", 28), ("hands", 29), ("table", 30), ("width", 31), ("wide", 32), ("free_table", 33), ("columns", 34)], ["own_places", "own_hands", "own_table", "own_width", "own_wide", "own_free", "own_columns"]⟩]
def exl : List (PySem.W.Frag → Bool) := [suB exs, cdsB clss, fun K => exB0 K "HushError" && exB1 .value K "HushError", fun K => exB0 K "InvalidWorks" && exB1 .value K "InvalidWorks"]
def ex (K : PySem.W.Frag) : Bool := exl.all fun q => q K
def con : List (Str × P) := [("MAX_LETTERS", .int 12), ("LETTERS", .str "abcdefghijklmnopqrstuvwxyz"), ("SIGNS", .str "abcdefghijklmnopqrstuvwxyz0123456789."), ("MAX_PLACES", .int 5), ("MAX_HANDS", .int 4)]
def free : List Str := ["abs", "all", "bool", "int", "isinstance", "len", "list", "max", "min", "property", "range", "repr", "sorted", "str", "tuple", "zip"]
def fds : List Fd := [d0, d1, d2, d3, d4, d5, d6, d7, d8, d9, d10, d11, d12, d13, d14, d15, d16, d17, d18, d19, d20, d21, d22, d23, d24, d25, d26, d27, d28, d29, d30, d31, d32, d33, d34, d35, d36, d37, d38, d39, d40, d41]
def gc : Gc := ⟨fds, lds, con, free, exs, clss⟩
def tf : List He.Defn := (fds.filter (·.tab)).map fun d => d.at_.key
def fnl : List Fd := [d0, d1, d2, d3, d4, d5, d6, d7, d8, d9, d10, d11, d12, d13, d14, d15, d16, d17, d18, d19, d20, d21, d22, d23, d24, d25, d26, d27, d35, d36, d37, d38, d39, d40, d41]
def gtl : List Fd := [d28, d29, d30, d31, d32, d33, d34]
def tpl : List Fd := [d0, d1, d2, d3, d4, d5, d6, d7, d8, d9, d10, d11, d12, d13, d14, d15, d16, d17, d18, d19, d20, d21, d22, d23, d24, d25, d26]
def fn : List He.DefD := fnl.map ddOf
def fa : List He.Fa := (tpl.map fun d => He.Fa.glo d.x) ++ free.map He.Fa.free
section
variable {K : PySem.W.Frag} {h : Heap} {mg : Str → Option Value}
theorem s0 : FnScope d0.N d0.ps d0.scope := ⟨rfl, rfl, rfl, by decide +kernel, rfl, by decide +kernel, by decide +kernel⟩
theorem b0 : BindN d0 := fun _ _ _ _ _ _ us hl => match us, hl with | [_], _ => rfl
theorem e0 (X : K.In h) (G : h.Ns mainGlobals mg) (c : SaysN con fa fn tf ex en gtl h K) : ∃ f da, Df K mg d0 f da := by
  obtain ⟨da, F⟩ := c.d.def_ 0 (d := ddOf d0) rfl
  exact ⟨_, da, df_none F (fun _ => He.glo_ok X G (c.d.fact 0 (f := .glo "_wall") rfl)) rfl (fun _ => rfl) s0 rfl b0⟩
theorem s1 : FnScope d1.N d1.ps d1.scope := ⟨rfl, rfl, rfl, by decide +kernel, rfl, by decide +kernel, by decide +kernel⟩
theorem b1 : BindN d1 := fun _ _ _ _ _ _ us hl => match us, hl with | [_], _ => rfl
theorem e1 (X : K.In h) (G : h.Ns mainGlobals mg) (c : SaysN con fa fn tf ex en gtl h K) : ∃ f da, Df K mg d1 f da := by
  obtain ⟨da, F⟩ := c.d.def_ 1 (d := ddOf d1) rfl
  exact ⟨_, da, df_none F (fun _ => He.glo_ok X G (c.d.fact 1 (f := .glo "is_integer") rfl)) rfl (fun _ => rfl) s1 rfl b1⟩
theorem s2 : FnScope d2.N d2.ps d2.scope := ⟨rfl, rfl, rfl, by decide +kernel, rfl, by decide +kernel, by decide +kernel⟩
theorem b2 : BindN d2 := fun _ _ _ _ _ _ us hl => match us, hl with | [_], _ => rfl
theorem e2 (X : K.In h) (G : h.Ns mainGlobals mg) (c : SaysN con fa fn tf ex en gtl h K) : ∃ f da, Df K mg d2 f da := by
  obtain ⟨da, F⟩ := c.d.def_ 2 (d := ddOf d2) rfl
  exact ⟨_, da, df_none F (fun _ => He.glo_ok X G (c.d.fact 2 (f := .glo "is_name") rfl)) rfl (fun _ => rfl) s2 rfl b2⟩
theorem s3 : FnScope d3.N d3.ps d3.scope := ⟨rfl, rfl, rfl, by decide +kernel, rfl, by decide +kernel, by decide +kernel⟩
theorem b3 : BindN d3 := fun _ _ _ _ _ _ us hl => match us, hl with | [_, _], _ => rfl
theorem e3 (X : K.In h) (G : h.Ns mainGlobals mg) (c : SaysN con fa fn tf ex en gtl h K) : ∃ f da, Df K mg d3 f da := by
  obtain ⟨da, F⟩ := c.d.def_ 3 (d := ddOf d3) rfl
  exact ⟨_, da, df_none F (fun _ => He.glo_ok X G (c.d.fact 3 (f := .glo "common_divisor") rfl)) rfl (fun _ => rfl) s3 rfl b3⟩
theorem s4 : FnScope d4.N d4.ps d4.scope := ⟨rfl, rfl, rfl, by decide +kernel, rfl, by decide +kernel, by decide +kernel⟩
theorem b4 : BindN d4 := fun _ _ _ _ _ _ us hl => match us, hl with | [_], _ => rfl
theorem e4 (X : K.In h) (G : h.Ns mainGlobals mg) (c : SaysN con fa fn tf ex en gtl h K) : ∃ f da, Df K mg d4 f da := by
  obtain ⟨da, F⟩ := c.d.def_ 4 (d := ddOf d4) rfl
  exact ⟨_, da, df_none F (fun _ => He.glo_ok X G (c.d.fact 4 (f := .glo "is_number") rfl)) rfl (fun _ => rfl) s4 rfl b4⟩
theorem s5 : FnScope d5.N d5.ps d5.scope := ⟨rfl, rfl, rfl, by decide +kernel, rfl, by decide +kernel, by decide +kernel⟩
theorem b5 : BindN d5 := fun _ _ _ _ _ _ us hl => match us, hl with | [_, _], _ => rfl
theorem e5 (X : K.In h) (G : h.Ns mainGlobals mg) (c : SaysN con fa fn tf ex en gtl h K) : ∃ f da, Df K mg d5 f da := by
  obtain ⟨da, F⟩ := c.d.def_ 5 (d := ddOf d5) rfl
  exact ⟨_, da, df_none F (fun _ => He.glo_ok X G (c.d.fact 5 (f := .glo "is_plain_row") rfl)) rfl (fun _ => rfl) s5 rfl b5⟩
theorem s6 : FnScope d6.N d6.ps d6.scope := ⟨rfl, rfl, rfl, by decide +kernel, rfl, by decide +kernel, by decide +kernel⟩
theorem b6 : BindN d6 := fun _ _ _ _ _ _ us hl => match us, hl with | [_, _, _], _ => rfl
theorem e6 (X : K.In h) (G : h.Ns mainGlobals mg) (c : SaysN con fa fn tf ex en gtl h K) : ∃ f da, Df K mg d6 f da := by
  obtain ⟨da, F⟩ := c.d.def_ 6 (d := ddOf d6) rfl
  exact ⟨_, da, df_none F (fun _ => He.glo_ok X G (c.d.fact 6 (f := .glo "is_plain_table") rfl)) rfl (fun _ => rfl) s6 rfl b6⟩
theorem s7 : FnScope d7.N d7.ps d7.scope := ⟨rfl, rfl, rfl, by decide +kernel, rfl, by decide +kernel, by decide +kernel⟩
theorem b7 : BindN d7 := fun _ _ _ _ _ _ us hl => match us, hl with | [_, _], _ => rfl
theorem e7 (X : K.In h) (G : h.Ns mainGlobals mg) (c : SaysN con fa fn tf ex en gtl h K) : ∃ f da, Df K mg d7 f da := by
  obtain ⟨da, F⟩ := c.d.def_ 7 (d := ddOf d7) rfl
  exact ⟨_, da, df_none F (fun _ => He.glo_ok X G (c.d.fact 7 (f := .glo "columns_of") rfl)) rfl (fun _ => rfl) s7 rfl b7⟩
theorem s8 : FnScope d8.N d8.ps d8.scope := ⟨rfl, rfl, rfl, by decide +kernel, rfl, by decide +kernel, by decide +kernel⟩
theorem b8 : BindN d8 := fun _ _ _ _ _ _ us hl => match us, hl with | [_, _, _], _ => rfl
theorem e8 (X : K.In h) (G : h.Ns mainGlobals mg) (c : SaysN con fa fn tf ex en gtl h K) : ∃ f da, Df K mg d8 f da := by
  obtain ⟨da, F⟩ := c.d.def_ 8 (d := ddOf d8) rfl
  exact ⟨_, da, df_none F (fun _ => He.glo_ok X G (c.d.fact 8 (f := .glo "are_names") rfl)) rfl (fun _ => rfl) s8 rfl b8⟩
theorem s9 : FnScope d9.N d9.ps d9.scope := ⟨rfl, rfl, rfl, by decide +kernel, rfl, by decide +kernel, by decide +kernel⟩
theorem b9 : BindN d9 := fun _ _ _ _ _ _ us hl => match us, hl with | [_, _], _ => rfl
theorem e9 (X : K.In h) (G : h.Ns mainGlobals mg) (c : SaysN con fa fn tf ex en gtl h K) : ∃ f da, Df K mg d9 f da := by
  obtain ⟨da, F⟩ := c.d.def_ 9 (d := ddOf d9) rfl
  exact ⟨_, da, df_none F (fun _ => He.glo_ok X G (c.d.fact 9 (f := .glo "names_fault") rfl)) rfl (fun _ => rfl) s9 rfl b9⟩
theorem s10 : FnScope d10.N d10.ps d10.scope := ⟨rfl, rfl, rfl, by decide +kernel, rfl, by decide +kernel, by decide +kernel⟩
theorem b10 : BindN d10 := fun _ _ _ _ _ _ us hl => match us, hl with | [_, _, _], _ => rfl
theorem e10 (X : K.In h) (G : h.Ns mainGlobals mg) (c : SaysN con fa fn tf ex en gtl h K) : ∃ f da, Df K mg d10 f da := by
  obtain ⟨da, F⟩ := c.d.def_ 10 (d := ddOf d10) rfl
  exact ⟨_, da, df_none F (fun _ => He.glo_ok X G (c.d.fact 10 (f := .glo "works_fault") rfl)) rfl (fun _ => rfl) s10 rfl b10⟩
theorem s11 : FnScope d11.N d11.ps d11.scope := ⟨rfl, rfl, rfl, by decide +kernel, rfl, by decide +kernel, by decide +kernel⟩
theorem b11 : BindN d11 := fun _ _ _ _ _ _ us hl => match us, hl with | [_, _], _ => rfl
theorem e11 (X : K.In h) (G : h.Ns mainGlobals mg) (c : SaysN con fa fn tf ex en gtl h K) : ∃ f da, Df K mg d11 f da := by
  obtain ⟨da, F⟩ := c.d.def_ 11 (d := ddOf d11) rfl
  exact ⟨_, da, df_none F (fun _ => He.glo_ok X G (c.d.fact 11 (f := .glo "_law_dice") rfl)) rfl (fun _ => rfl) s11 rfl b11⟩
theorem s12 : FnScope d12.N d12.ps d12.scope := ⟨rfl, rfl, rfl, by decide +kernel, rfl, by decide +kernel, by decide +kernel⟩
theorem b12 : BindN d12 := fun _ _ _ _ _ _ us hl => match us, hl with | [_, _], _ => rfl
theorem e12 (X : K.In h) (G : h.Ns mainGlobals mg) (c : SaysN con fa fn tf ex en gtl h K) : ∃ f da, Df K mg d12 f da := by
  obtain ⟨da, F⟩ := c.d.def_ 12 (d := ddOf d12) rfl
  exact ⟨_, da, df_none F (fun _ => He.glo_ok X G (c.d.fact 12 (f := .glo "_law_roll") rfl)) rfl (fun _ => rfl) s12 rfl b12⟩
theorem s13 : FnScope d13.N d13.ps d13.scope := ⟨rfl, rfl, rfl, by decide +kernel, rfl, by decide +kernel, by decide +kernel⟩
theorem b13 : BindN d13 := fun _ _ _ _ _ _ us hl => match us, hl with | [_, _], _ => rfl
theorem e13 (X : K.In h) (G : h.Ns mainGlobals mg) (c : SaysN con fa fn tf ex en gtl h K) : ∃ f da, Df K mg d13 f da := by
  obtain ⟨da, F⟩ := c.d.def_ 13 (d := ddOf d13) rfl
  exact ⟨_, da, df_none F (fun _ => He.glo_ok X G (c.d.fact 13 (f := .glo "_law_pick") rfl)) rfl (fun _ => rfl) s13 rfl b13⟩
theorem s14 : FnScope d14.N d14.ps d14.scope := ⟨rfl, rfl, rfl, by decide +kernel, rfl, by decide +kernel, by decide +kernel⟩
theorem b14 : BindN d14 := fun _ _ _ _ _ _ us hl => match us, hl with | [_, _], _ => rfl
theorem e14 (X : K.In h) (G : h.Ns mainGlobals mg) (c : SaysN con fa fn tf ex en gtl h K) : ∃ f da, Df K mg d14 f da := by
  obtain ⟨da, F⟩ := c.d.def_ 14 (d := ddOf d14) rfl
  exact ⟨_, da, df_none F (fun _ => He.glo_ok X G (c.d.fact 14 (f := .glo "_law_fr") rfl)) rfl (fun _ => rfl) s14 rfl b14⟩
theorem s15 : FnScope d15.N d15.ps d15.scope := ⟨rfl, rfl, rfl, by decide +kernel, rfl, by decide +kernel, by decide +kernel⟩
theorem b15 : BindN d15 := fun _ _ _ _ _ _ us hl => match us, hl with | [_], _ => rfl
theorem e15 (X : K.In h) (G : h.Ns mainGlobals mg) (c : SaysN con fa fn tf ex en gtl h K) : ∃ f da, Df K mg d15 f da := by
  obtain ⟨da, F⟩ := c.d.def_ 15 (d := ddOf d15) rfl
  exact ⟨_, da, df_none F (fun _ => He.glo_ok X G (c.d.fact 15 (f := .glo "_law_is_number") rfl)) rfl (fun _ => rfl) s15 rfl b15⟩
theorem s16 : FnScope d16.N d16.ps d16.scope := ⟨rfl, rfl, rfl, by decide +kernel, rfl, by decide +kernel, by decide +kernel⟩
theorem b16 : BindN d16 := fun _ _ _ _ _ _ us hl => match us, hl with | [_, _], _ => rfl
theorem e16 (X : K.In h) (G : h.Ns mainGlobals mg) (c : SaysN con fa fn tf ex en gtl h K) : ∃ f da, Df K mg d16 f da := by
  obtain ⟨da, F⟩ := c.d.def_ 16 (d := ddOf d16) rfl
  exact ⟨_, da, df_none F (fun _ => He.glo_ok X G (c.d.fact 16 (f := .glo "_law_is_row") rfl)) rfl (fun _ => rfl) s16 rfl b16⟩
theorem s17 : FnScope d17.N d17.ps d17.scope := ⟨rfl, rfl, rfl, by decide +kernel, rfl, by decide +kernel, by decide +kernel⟩
theorem b17 : BindN d17 := fun _ _ _ _ _ _ us hl => match us, hl with | [_, _, _], _ => rfl
theorem e17 (X : K.In h) (G : h.Ns mainGlobals mg) (c : SaysN con fa fn tf ex en gtl h K) : ∃ f da, Df K mg d17 f da := by
  obtain ⟨da, F⟩ := c.d.def_ 17 (d := ddOf d17) rfl
  exact ⟨_, da, df_none F (fun _ => He.glo_ok X G (c.d.fact 17 (f := .glo "_law_is_table") rfl)) rfl (fun _ => rfl) s17 rfl b17⟩
theorem s18 : FnScope d18.N d18.ps d18.scope := ⟨rfl, rfl, rfl, by decide +kernel, rfl, by decide +kernel, by decide +kernel⟩
theorem b18 : BindN d18 := fun _ _ _ _ _ _ us hl => match us, hl with | [_, _, _], _ => rfl
theorem e18 (X : K.In h) (G : h.Ns mainGlobals mg) (c : SaysN con fa fn tf ex en gtl h K) : ∃ f da, Df K mg d18 f da := by
  obtain ⟨da, F⟩ := c.d.def_ 18 (d := ddOf d18) rfl
  exact ⟨_, da, df_none F (fun _ => He.glo_ok X G (c.d.fact 18 (f := .glo "_law_oa_works") rfl)) rfl (fun _ => rfl) s18 rfl b18⟩
theorem s19 : FnScope d19.N d19.ps d19.scope := ⟨rfl, rfl, rfl, by decide +kernel, rfl, by decide +kernel, by decide +kernel⟩
theorem b19 : BindN d19 := fun _ _ _ _ _ _ us hl => match us, hl with | [_], _ => rfl
theorem e19 (X : K.In h) (G : h.Ns mainGlobals mg) (c : SaysN con fa fn tf ex en gtl h K) : ∃ f da, Df K mg d19 f da := by
  obtain ⟨da, F⟩ := c.d.def_ 19 (d := ddOf d19) rfl
  exact ⟨_, da, df_none F (fun _ => He.glo_ok X G (c.d.fact 19 (f := .glo "_law_is_name") rfl)) rfl (fun _ => rfl) s19 rfl b19⟩
theorem s20 : FnScope d20.N d20.ps d20.scope := ⟨rfl, rfl, rfl, by decide +kernel, rfl, by decide +kernel, by decide +kernel⟩
theorem b20 : BindN d20 := fun _ _ _ _ _ _ us hl => match us, hl with | [_, _, _], _ => rfl
theorem e20 (X : K.In h) (G : h.Ns mainGlobals mg) (c : SaysN con fa fn tf ex en gtl h K) : ∃ f da, Df K mg d20 f da := by
  obtain ⟨da, F⟩ := c.d.def_ 20 (d := ddOf d20) rfl
  exact ⟨_, da, df_none F (fun _ => He.glo_ok X G (c.d.fact 20 (f := .glo "_law_are_names") rfl)) rfl (fun _ => rfl) s20 rfl b20⟩
theorem s21 : FnScope d21.N d21.ps d21.scope := ⟨rfl, rfl, rfl, by decide +kernel, rfl, by decide +kernel, by decide +kernel⟩
theorem b21 : BindN d21 := fun _ _ _ _ _ _ us hl => match us, hl with | [_, _, _], _ => rfl
theorem e21 (X : K.In h) (G : h.Ns mainGlobals mg) (c : SaysN con fa fn tf ex en gtl h K) : ∃ f da, Df K mg d21 f da := by
  obtain ⟨da, F⟩ := c.d.def_ 21 (d := ddOf d21) rfl
  exact ⟨_, da, df_none F (fun _ => He.glo_ok X G (c.d.fact 21 (f := .glo "_law_fault") rfl)) rfl (fun _ => rfl) s21 rfl b21⟩
theorem s22 : FnScope d22.N d22.ps d22.scope := ⟨rfl, rfl, rfl, by decide +kernel, rfl, by decide +kernel, by decide +kernel⟩
theorem b22 : BindN d22 := fun _ _ _ _ _ _ us hl => match us, hl with | [_, _], _ => rfl
theorem e22 (X : K.In h) (G : h.Ns mainGlobals mg) (c : SaysN con fa fn tf ex en gtl h K) : ∃ f da, Df K mg d22 f da := by
  obtain ⟨da, F⟩ := c.d.def_ 22 (d := ddOf d22) rfl
  exact ⟨_, da, df_none F (fun _ => He.glo_ok X G (c.d.fact 22 (f := .glo "_law_bent_names") rfl)) rfl (fun _ => rfl) s22 rfl b22⟩
theorem s23 : FnScope d23.N d23.ps d23.scope := ⟨rfl, rfl, rfl, by decide +kernel, rfl, by decide +kernel, by decide +kernel⟩
theorem b23 : BindN d23 := fun _ _ _ _ _ _ us hl => match us, hl with | [_, _], _ => rfl
theorem e23 (X : K.In h) (G : h.Ns mainGlobals mg) (c : SaysN con fa fn tf ex en gtl h K) : ∃ f da, Df K mg d23 f da := by
  obtain ⟨da, F⟩ := c.d.def_ 23 (d := ddOf d23) rfl
  exact ⟨_, da, df_none F (fun _ => He.glo_ok X G (c.d.fact 23 (f := .glo "_law_bent_table") rfl)) rfl (fun _ => rfl) s23 rfl b23⟩
theorem s24 : FnScope d24.N d24.ps d24.scope := ⟨rfl, rfl, rfl, by decide +kernel, rfl, by decide +kernel, by decide +kernel⟩
theorem b24 : BindN d24 := fun _ _ _ _ _ _ us hl => match us, hl with | [_, _, _], _ => rfl
theorem e24 (X : K.In h) (G : h.Ns mainGlobals mg) (c : SaysN con fa fn tf ex en gtl h K) : ∃ f da, Df K mg d24 f da := by
  obtain ⟨da, F⟩ := c.d.def_ 24 (d := ddOf d24) rfl
  exact ⟨_, da, df_none F (fun _ => He.glo_ok X G (c.d.fact 24 (f := .glo "_law_made") rfl)) rfl (fun _ => rfl) s24 rfl b24⟩
theorem s25 : FnScope d25.N d25.ps d25.scope := ⟨rfl, rfl, rfl, by decide +kernel, rfl, by decide +kernel, by decide +kernel⟩
theorem b25 : BindN d25 := fun _ _ _ _ _ _ us hl => match us, hl with | [_], _ => rfl
theorem e25 (X : K.In h) (G : h.Ns mainGlobals mg) (c : SaysN con fa fn tf ex en gtl h K) : ∃ f da, Df K mg d25 f da := by
  obtain ⟨da, F⟩ := c.d.def_ 25 (d := ddOf d25) rfl
  exact ⟨_, da, df_none F (fun _ => He.glo_ok X G (c.d.fact 25 (f := .glo "_law_right") rfl)) rfl (fun _ => rfl) s25 rfl b25⟩
theorem s26 : FnScope d26.N d26.ps d26.scope := ⟨rfl, rfl, rfl, by decide +kernel, rfl, by decide +kernel, by decide +kernel⟩
theorem b26 : BindN d26 := fun _ _ _ _ _ _ us hl => match us, hl with | [_], _ => rfl
theorem e26 (X : K.In h) (G : h.Ns mainGlobals mg) (c : SaysN con fa fn tf ex en gtl h K) : ∃ f da, Df K mg d26 f da := by
  obtain ⟨da, F⟩ := c.d.def_ 26 (d := ddOf d26) rfl
  exact ⟨_, da, df_none F (fun _ => He.glo_ok X G (c.d.fact 26 (f := .glo "law") rfl)) rfl (fun _ => rfl) s26 rfl b26⟩
theorem s27 : FnScope d27.N d27.ps d27.scope := ⟨rfl, rfl, rfl, by decide +kernel, rfl, by decide +kernel, by decide +kernel⟩
theorem b27 : BindN d27 := fun _ _ _ _ _ _ us hl => match us, hl with | [_, _, _, _], _ => rfl
theorem e27 (X : K.In h) (G : h.Ns mainGlobals mg) (c : SaysN con fa fn tf ex en gtl h K) : ∃ f da, Df K mg d27 f da := by
  obtain ⟨da, F⟩ := c.d.def_ 27 (d := ddOf d27) rfl
  exact ⟨_, da, df_none F (fun h => Bool.noConfusion h) rfl (fun _ => rfl) s27 rfl b27⟩
theorem s28 : FnScope d28.N d28.ps d28.scope := ⟨rfl, rfl, rfl, by decide +kernel, rfl, by decide +kernel, by decide +kernel⟩
theorem b28 : BindN d28 := fun _ _ _ _ _ _ us hl => match us, hl with | [_], _ => rfl
theorem e28 (X : K.In h) (G : h.Ns mainGlobals mg) (c : SaysN con fa fn tf ex en gtl h K) : ∃ f da, Df K mg d28 f da := by
  obtain ⟨da, F⟩ := c.get 0 (fd := d28) rfl
  exact ⟨_, da, df_none F (fun h => Bool.noConfusion h) rfl (fun h => Bool.noConfusion h) s28 rfl b28⟩
theorem s29 : FnScope d29.N d29.ps d29.scope := ⟨rfl, rfl, rfl, by decide +kernel, rfl, by decide +kernel, by decide +kernel⟩
theorem b29 : BindN d29 := fun _ _ _ _ _ _ us hl => match us, hl with | [_], _ => rfl
theorem e29 (X : K.In h) (G : h.Ns mainGlobals mg) (c : SaysN con fa fn tf ex en gtl h K) : ∃ f da, Df K mg d29 f da := by
  obtain ⟨da, F⟩ := c.get 1 (fd := d29) rfl
  exact ⟨_, da, df_none F (fun h => Bool.noConfusion h) rfl (fun h => Bool.noConfusion h) s29 rfl b29⟩
theorem s30 : FnScope d30.N d30.ps d30.scope := ⟨rfl, rfl, rfl, by decide +kernel, rfl, by decide +kernel, by decide +kernel⟩
theorem b30 : BindN d30 := fun _ _ _ _ _ _ us hl => match us, hl with | [_], _ => rfl
theorem e30 (X : K.In h) (G : h.Ns mainGlobals mg) (c : SaysN con fa fn tf ex en gtl h K) : ∃ f da, Df K mg d30 f da := by
  obtain ⟨da, F⟩ := c.get 2 (fd := d30) rfl
  exact ⟨_, da, df_none F (fun h => Bool.noConfusion h) rfl (fun h => Bool.noConfusion h) s30 rfl b30⟩
theorem s31 : FnScope d31.N d31.ps d31.scope := ⟨rfl, rfl, rfl, by decide +kernel, rfl, by decide +kernel, by decide +kernel⟩
theorem b31 : BindN d31 := fun _ _ _ _ _ _ us hl => match us, hl with | [_], _ => rfl
theorem e31 (X : K.In h) (G : h.Ns mainGlobals mg) (c : SaysN con fa fn tf ex en gtl h K) : ∃ f da, Df K mg d31 f da := by
  obtain ⟨da, F⟩ := c.get 3 (fd := d31) rfl
  exact ⟨_, da, df_none F (fun h => Bool.noConfusion h) rfl (fun h => Bool.noConfusion h) s31 rfl b31⟩
theorem s32 : FnScope d32.N d32.ps d32.scope := ⟨rfl, rfl, rfl, by decide +kernel, rfl, by decide +kernel, by decide +kernel⟩
theorem b32 : BindN d32 := fun _ _ _ _ _ _ us hl => match us, hl with | [_], _ => rfl
theorem e32 (X : K.In h) (G : h.Ns mainGlobals mg) (c : SaysN con fa fn tf ex en gtl h K) : ∃ f da, Df K mg d32 f da := by
  obtain ⟨da, F⟩ := c.get 4 (fd := d32) rfl
  exact ⟨_, da, df_none F (fun h => Bool.noConfusion h) rfl (fun h => Bool.noConfusion h) s32 rfl b32⟩
theorem s33 : FnScope d33.N d33.ps d33.scope := ⟨rfl, rfl, rfl, by decide +kernel, rfl, by decide +kernel, by decide +kernel⟩
theorem b33 : BindN d33 := fun _ _ _ _ _ _ us hl => match us, hl with | [_], _ => rfl
theorem e33 (X : K.In h) (G : h.Ns mainGlobals mg) (c : SaysN con fa fn tf ex en gtl h K) : ∃ f da, Df K mg d33 f da := by
  obtain ⟨da, F⟩ := c.get 5 (fd := d33) rfl
  exact ⟨_, da, df_none F (fun h => Bool.noConfusion h) rfl (fun h => Bool.noConfusion h) s33 rfl b33⟩
theorem s34 : FnScope d34.N d34.ps d34.scope := ⟨rfl, rfl, rfl, by decide +kernel, rfl, by decide +kernel, by decide +kernel⟩
theorem b34 : BindN d34 := fun _ _ _ _ _ _ us hl => match us, hl with | [_], _ => rfl
theorem e34 (X : K.In h) (G : h.Ns mainGlobals mg) (c : SaysN con fa fn tf ex en gtl h K) : ∃ f da, Df K mg d34 f da := by
  obtain ⟨da, F⟩ := c.get 6 (fd := d34) rfl
  exact ⟨_, da, df_none F (fun h => Bool.noConfusion h) rfl (fun h => Bool.noConfusion h) s34 rfl b34⟩
theorem s35 : FnScope d35.N d35.ps d35.scope := ⟨rfl, rfl, rfl, by decide +kernel, rfl, by decide +kernel, by decide +kernel⟩
theorem b35 : BindN d35 := fun _ _ _ _ _ _ us hl => match us, hl with | [_, _, _], _ => rfl
theorem e35 (X : K.In h) (G : h.Ns mainGlobals mg) (c : SaysN con fa fn tf ex en gtl h K) : ∃ f da, Df K mg d35 f da := by
  obtain ⟨da, F⟩ := c.d.def_ 28 (d := ddOf d35) rfl
  exact ⟨_, da, df_none F (fun h => Bool.noConfusion h) rfl (fun _ => rfl) s35 rfl b35⟩
theorem s36 : FnScope d36.N d36.ps d36.scope := ⟨rfl, rfl, rfl, by decide +kernel, rfl, by decide +kernel, by decide +kernel⟩
theorem b36 : BindN d36 := fun _ _ _ _ _ _ us hl => match us, hl with | [_, _], _ => rfl
theorem e36 (X : K.In h) (G : h.Ns mainGlobals mg) (c : SaysN con fa fn tf ex en gtl h K) : ∃ f da, Df K mg d36 f da := by
  obtain ⟨da, F⟩ := c.d.def_ 29 (d := ddOf d36) rfl
  exact ⟨_, da, df_none F (fun h => Bool.noConfusion h) rfl (fun _ => rfl) s36 rfl b36⟩
theorem s37 : FnScope d37.N d37.ps d37.scope := ⟨rfl, rfl, rfl, by decide +kernel, rfl, by decide +kernel, by decide +kernel⟩
theorem b37 : BindN d37 := fun _ _ _ _ _ _ us hl => match us, hl with | [_, _], _ => rfl
theorem e37 (X : K.In h) (G : h.Ns mainGlobals mg) (c : SaysN con fa fn tf ex en gtl h K) : ∃ f da, Df K mg d37 f da := by
  obtain ⟨da, F⟩ := c.d.def_ 30 (d := ddOf d37) rfl
  exact ⟨_, da, df_none F (fun h => Bool.noConfusion h) rfl (fun _ => rfl) s37 rfl b37⟩
theorem s38 : FnScope d38.N d38.ps d38.scope := ⟨rfl, rfl, rfl, by decide +kernel, rfl, by decide +kernel, by decide +kernel⟩
theorem b38 : BindN d38 := fun _ _ _ _ _ _ us hl => match us, hl with | [_, _, _], _ => rfl
theorem e38 (X : K.In h) (G : h.Ns mainGlobals mg) (c : SaysN con fa fn tf ex en gtl h K) : ∃ f da, Df K mg d38 f da := by
  obtain ⟨da, F⟩ := c.d.def_ 31 (d := ddOf d38) rfl
  exact ⟨_, da, df_none F (fun h => Bool.noConfusion h) rfl (fun _ => rfl) s38 rfl b38⟩
theorem s39 : FnScope d39.N d39.ps d39.scope := ⟨rfl, rfl, rfl, by decide +kernel, rfl, by decide +kernel, by decide +kernel⟩
theorem b39 : BindN d39 := fun _ _ _ _ _ _ us hl => match us, hl with | [_, _, _], _ => rfl
theorem e39 (X : K.In h) (G : h.Ns mainGlobals mg) (c : SaysN con fa fn tf ex en gtl h K) : ∃ f da, Df K mg d39 f da := by
  obtain ⟨da, F⟩ := c.d.def_ 32 (d := ddOf d39) rfl
  exact ⟨_, da, df_none F (fun h => Bool.noConfusion h) rfl (fun _ => rfl) s39 rfl b39⟩
theorem s40 : FnScope d40.N d40.ps d40.scope := ⟨rfl, rfl, rfl, by decide +kernel, rfl, by decide +kernel, by decide +kernel⟩
theorem b40 : BindN d40 := fun _ _ _ _ _ _ us hl => match us, hl with | [_, _], _ => rfl
theorem e40 (X : K.In h) (G : h.Ns mainGlobals mg) (c : SaysN con fa fn tf ex en gtl h K) : ∃ f da, Df K mg d40 f da := by
  obtain ⟨da, F⟩ := c.d.def_ 33 (d := ddOf d40) rfl
  exact ⟨_, da, df_none F (fun h => Bool.noConfusion h) rfl (fun _ => rfl) s40 rfl b40⟩
theorem s41 : FnScope d41.N d41.ps d41.scope := ⟨rfl, rfl, rfl, by decide +kernel, rfl, by decide +kernel, by decide +kernel⟩
theorem b41 : BindN d41 := fun _ _ _ _ _ _ us hl => match us, hl with | [_], _ => rfl
theorem e41 (X : K.In h) (G : h.Ns mainGlobals mg) (c : SaysN con fa fn tf ex en gtl h K) : ∃ f da, Df K mg d41 f da := by
  obtain ⟨da, F⟩ := c.d.def_ 34 (d := ddOf d41) rfl
  exact ⟨_, da, df_none F (fun h => Bool.noConfusion h) rfl (fun _ => rfl) s41 rfl b41⟩
theorem ex_at (c : SaysN con fa fn tf ex en gtl h K) (i : Nat) {q : PySem.W.Frag → Bool} (hi : exl[i]? = some q) : q K = true := List.all_eq_true.mp c.x _ (List.mem_of_getElem? hi)
theorem en_at (c : SaysN con fa fn tf ex en gtl h K) (i : Nat) {e : En} (hi : en[i]? = some e) : enW K e.y = e.val := by
  have q := congrArg (fun l : List EnW => l[i]?) c.e
  simp only [List.getElem?_map, hi, Option.map_some] at q
  exact Option.some.inj q
theorem x0 (X : K.In h) (G : h.Ns mainGlobals mg) (c : SaysN con fa fn tf ex en gtl h K) : ExF PySem.Challenge.pw_hushworks_k28_whole_first_faults_of_work (kgOf gc K) mg (rsOf gc.exs) "HushError" 0 (He.ga K "HushError") := by
  have z := Bool.and_eq_true_iff.mp (ex_at c 2 (q := fun K => exB0 K "HushError" && exB1 .value K "HushError") rfl)
  exact exf_plain X G (gc := gc) (i := 0) (d := ⟨"HushError", none, none⟩) rfl rfl z.1 z.2
theorem x1 (X : K.In h) (G : h.Ns mainGlobals mg) (c : SaysN con fa fn tf ex en gtl h K) : ExF PySem.Challenge.pw_hushworks_k28_whole_first_faults_of_work (kgOf gc K) mg (rsOf gc.exs) "InvalidWorks" 1 (He.ga K "InvalidWorks") := by
  have z := Bool.and_eq_true_iff.mp (ex_at c 3 (q := fun K => exB0 K "InvalidWorks" && exB1 .value K "InvalidWorks") rfl)
  exact exf_plain X G (gc := gc) (i := 1) (d := ⟨"InvalidWorks", none, some 0⟩) rfl rfl z.1 z.2
theorem wf (X : K.In h) (G : h.Ns mainGlobals mg) (c : SaysN con fa fn tf ex en gtl h K) : Wf gc PySem.Challenge.pw_hushworks_k28_whole_first_faults_of_work K mg where
  con := consB_ok X G c.c
  free := fun x hx => He.free_ok X G (c.d.facts (List.mem_append_right _ (List.mem_map_of_mem hx)))
  defs := fun i fd hi => by
    have q := Each.get (Q := fun _ fd => ∃ f da, Df K mg fd f da) (b := 0) (l := fds) ⟨e0 X G c, e1 X G c, e2 X G c, e3 X G c, e4 X G c, e5 X G c, e6 X G c, e7 X G c, e8 X G c, e9 X G c, e10 X G c, e11 X G c, e12 X G c, e13 X G c, e14 X G c, e15 X G c, e16 X G c, e17 X G c, e18 X G c, e19 X G c, e20 X G c, e21 X G c, e22 X G c, e23 X G c, e24 X G c, e25 X G c, e26 X G c, e27 X G c, e28 X G c, e29 X G c, e30 X G c, e31 X G c, e32 X G c, e33 X G c, e34 X G c, e35 X G c, e36 X G c, e37 X G c, e38 X G c, e39 X G c, e40 X G c, e41 X G c, trivial⟩ hi
    exact q
  lams := fun i l hi => by
    cases i <;> cases hi
  exn := fun i d hi => by
    have q := EachX.get (Q := fun i d => ExF PySem.Challenge.pw_hushworks_k28_whole_first_faults_of_work (kgOf gc K) mg (rsOf gc.exs) d.y i (He.ga K d.y)) (b := 0) (l := exs) ⟨x0 X G c, x1 X G c, trivial⟩ hi
    rw [Nat.zero_add] at q
    exact q
  su := suB_ok (gc := gc) (ex_at c 0 (q := suB exs) rfl)
  cls := cw_of (gc := gc) X G (by decide +kernel) (ex_at c 1 (q := cdsB clss) rfl)
  isB := isB_of (gc := gc) (ex_at c 1 (q := cdsB clss) rfl)
  isO := isO_of (gc := gc) (ex_at c 1 (q := cdsB clss) rfl)
  one := by
    have q := c.one
    unfold tf at q
    rw [List.map_map] at q
    exact q
end
abbrev R : PySem.W.OpenRow := PySem.W.OpenLaw.row PySem.Challenge.rw_hushworks_k28_whole_first_faults_of_work
abbrev hk : PySem.W.Hook := hookN 6 con fa fn tf ex en gtl
def ob (s : PySem.W.SharedT) : AlN := obsNG 6 con fa fn tf ex en gtl (HandSHeadRun.getT s)
theorem ob_eq (s : PySem.W.SharedT) : ob s = hk.obs s.abs := obsNG_eq (HandSHeadRun.getT_eq s)
def nm0 : List Str := ["_wall", "HushError", "InvalidWorks", "MAX_LETTERS", "LETTERS", "SIGNS", "is_integer", "is_name", "common_divisor", "is_number", "is_plain_row", "is_plain_table", "columns_of", "MAX_PLACES", "MAX_HANDS", "are_names", "names_fault", "works_fault", "Works", "_law_dice", "_law_roll", "_law_pick", "_law_fr", "_law_is_number", "_law_is_row", "_law_is_table", "_law_oa_works", "_law_is_name", "_law_are_names", "_law_fault"]
def nm1 : List Str := ["_law_bent_names", "_law_bent_table", "_law_made", "_law_right"]
abbrev names : List Str := nm0 ++ nm1
def MM : Nat := 2800
theorem run (w : World) : HandSHeadRun.RunEq R (PySem.W.view R.prog [39]) hk ob MM names w := by
  intro os
  kernel_rfl
theorem bA {K : PySem.W.Frag} {f : Addr} {da : FuncData} (F : FunD K d26.x d26.qual d26.params d26.body d26.scope [] [] f da) (s : Shared) (v : Value) : BindsTo s da ⟨[v], []⟩ [("script", v)] :=
  FunD.bindsA (ps := ["script"]) F (fun _ _ _ _ _ _ us hl => match us, hl with | [_], _ => rfl) s [v] rfl
end Lw28
/-! the intermediate form, as a literal -/
namespace Lw28
open PySem Mn
def g0 : Def := ⟨1, 1, [(.wh (.k (.bl true)) [.pass])], none⟩
def g1 : Def := ⟨1, 1, [(.ret (.and (.isi .int (.v 0)) (.not (.isi .bool (.v 0)))))], none⟩
def g2 : Def := ⟨1, 2, [(.ite (.or (.not (.isi .str (.v 0))) (.or (.not (.chain .le .le (.k (.int (1))) (.bi .len [(.v 0)]) (.k (.int (12))))) (.cmp .nin (.ix (.v 0) (.k (.int (0)))) (.k (.str "abcdefghijklmnopqrstuvwxyz"))))) [(.ret (.k (.bl false)))] []), (.ret (.bi .all [(.lc false [1] (.n 1) .it [(.v 0)] none (.cmp .inn (.v 1) (.k (.str "abcdefghijklmnopqrstuvwxyz0123456789."))))]))], none⟩
def g3 : Def := ⟨2, 2, [(.setT [0, 1] [(.bi .abs [(.v 0)]), (.bi .abs [(.v 1)])]), (.wh (.cmp .gt (.v 1) (.k (.int (0)))) [(.setT [0, 1] [(.v 1), (.bin .mod (.v 0) (.v 1))])]), (.ret (.v 0))], none⟩
def g4 : Def := ⟨1, 2, [(.ite (.or (.not (.isi .tuple (.v 0))) (.or (.cmp .ne (.bi .len [(.v 0)]) (.k (.int (2)))) (.not (.bi .all [(.lc false [1] (.n 1) .it [(.v 0)] none (.callB 1 [(.v 1)]))])))) [(.ret (.k (.bl false)))] []), (.ret (.and (.cmp .ge (.ix (.v 0) (.k (.int (1)))) (.k (.int (1)))) (.cmp .eq (.call 3 [(.ix (.v 0) (.k (.int (0)))), (.ix (.v 0) (.k (.int (1))))]) (.k (.int (1))))))], none⟩
def g5 : Def := ⟨2, 3, [(.ret (.and (.isi .tuple (.v 1)) (.and (.cmp .eq (.bi .len [(.v 1)]) (.v 0)) (.bi .all [(.lc false [2] (.n 2) .it [(.v 1)] none (.callB 4 [(.v 2)]))]))))], none⟩
def g6 : Def := ⟨3, 4, [(.ret (.and (.isi .tuple (.v 2)) (.and (.cmp .eq (.bi .len [(.v 2)]) (.v 0)) (.bi .all [(.lc false [3] (.n 3) .it [(.v 2)] none (.callB 5 [(.v 1), (.v 3)]))]))))], none⟩
def g7 : Def := ⟨2, 4, [(.ret (.bi .tuple [(.lc false [2] (.n 2) .rng1 [(.v 1)] none (.bi .tuple [(.lc false [3] (.n 3) .it [(.v 0)] none (.ix (.v 3) (.v 2)))]))]))], none⟩
def g8 : Def := ⟨3, 6, [(.ite (.or (.not (.isi .tuple (.v 0))) (.or (.not (.chain .le .le (.v 1) (.bi .len [(.v 0)]) (.v 2))) (.not (.bi .all [(.lc false [3] (.n 3) .it [(.v 0)] none (.callB 2 [(.v 3)]))])))) [(.ret (.k (.bl false)))] []), (.ret (.bi .all [(.lc false [4, 5] (.t [.n 4, .n 5]) .zip [(.v 0), (.sl (.v 0) (some (.k (.int (1)))) none)] none (.cmp .lt (.v 4) (.v 5)))]))], none⟩
def g9 : Def := ⟨2, 4, [(.ite (.not (.call 8 [(.v 0), (.k (.int (1))), (.k (.int (5)))])) [(.ret (.tup [(.k (.str "places"))]))] []), (.ite (.not (.call 8 [(.v 1), (.k (.int (0))), (.k (.int (4)))])) [(.ret (.tup [(.k (.str "hands"))]))] []), (.set 2 (.lc false [3] (.n 3) .it [(.v 0)] (some (.cmp .inn (.v 3) (.v 1))) (.v 3))), (.ret (.ite (.cmp .eq (.v 2) (.lst false [])) (.k (.non)) (.tup [(.k (.str "twice")), (.ix (.v 2) (.k (.int (0))))])))], none⟩
def g10 : Def := ⟨3, 4, [(.set 3 (.call 9 [(.v 0), (.v 1)])), (.ite (.cmp .isn (.v 3) (.k (.non))) [(.ret (.v 3))] []), (.ret (.ite (.call 6 [(.bi .len [(.v 0)]), (.bin .add (.bi .len [(.v 0)]) (.bi .len [(.v 1)])), (.v 2)]) (.k (.non)) (.tup [(.k (.str "table"))])))], none⟩
def g11 : Def := ⟨2, 5, [(.set 2 (.ite (.cmp .lt (.v 1) (.bi .len [(.v 0)])) (.bi .int [(.ix (.v 0) (.v 1))]) (.bin .add (.bin .mul (.k (.int (131))) (.v 1)) (.k (.int (37)))))), (.set 3 (.bin .mod (.bi .int [(.bi .abs [(.v 2)])]) (.bin .pow (.bin .pow (.k (.int (10))) (.k (.int (53)))) (.k (.int (6)))))), (.set 4 (.bin .add (.bin .add (.bin .add (.bin .mul (.bin .mod (.v 3) (.k (.int (2305843009213693907)))) (.k (.int (73)))) (.bin .mul (.k (.int (619))) (.v 1))) (.bin .mul (.k (.int (41))) (.bi .int [(.cmp .lt (.v 2) (.k (.int (0))))]))) (.k (.int (17))))), (.ret (.lst true [(.bi .max [(.k (.int (0))), (.bin .sub (.v 3) (.bin .pow (.k (.int (10))) (.k (.int (16)))))]), (.v 4), (.k (.int (0)))]))], none⟩
def g12 : Def := ⟨2, 5, [(.ite (.cmp .gt (.ix (.v 0) (.k (.int (0)))) (.k (.int (0)))) [(.set 2 (.bin .mod (.ix (.v 0) (.k (.int (0)))) (.v 1))), (.setIx (.v 0) (.k (.int (0))) (.bin .fdiv (.ix (.v 0) (.k (.int (0)))) (.v 1))), (.ret (.bi .int [(.v 2)]))] []), (.setIx (.v 0) (.k (.int (2))) (.bin .add (.ix (.v 0) (.k (.int (2)))) (.k (.int (1))))), (.set 3 (.bin .mod (.bin .add (.ix (.v 0) (.k (.int (1)))) (.bin .mul (.k (.int (49979687))) (.ix (.v 0) (.k (.int (2)))))) (.k (.int (2305843009213693951))))), (.set 4 (.bin .add (.bin .mul (.bin .mod (.bin .add (.bin .mul (.v 3) (.v 3)) (.bin .mul (.k (.int (131))) (.ix (.v 0) (.k (.int (2)))))) (.k (.int (2305843009213693921)))) (.k (.int (32452843)))) (.v 3))), (.ret (.bin .mod (.bi .int [(.bin .fdiv (.v 4) (.k (.int (65587))))]) (.v 1)))], none⟩
def g13 : Def := ⟨2, 2, [(.ret (.ix (.v 1) (.call 12 [(.v 0), (.bi .len [(.v 1)])])))], none⟩
def g14 : Def := ⟨2, 5, [(.setT [2, 3] [(.bi .abs [(.v 0)]), (.bi .abs [(.v 1)])]), (.wh (.cmp .gt (.v 3) (.k (.int (0)))) [(.setT [2, 3] [(.v 3), (.bin .mod (.v 2) (.v 3))])]), (.set 4 (.ite (.cmp .lt (.v 1) (.k (.int (0)))) (.neg (.k (.int (1)))) (.k (.int (1))))), (.ret (.tup [(.bin .fdiv (.bin .mul (.v 4) (.v 0)) (.v 2)), (.bin .fdiv (.bin .mul (.v 4) (.v 1)) (.v 2))]))], none⟩
def g15 : Def := ⟨1, 2, [(.ite (.or (.not (.isi .tuple (.v 0))) (.cmp .ne (.bi .len [(.v 0)]) (.k (.int (2))))) [(.ret (.k (.bl false)))] []), (.ite (.cmp .ne (.lc false [1] (.n 1) .it [(.v 0)] (some (.or (.not (.isi .int (.v 1))) (.isi .bool (.v 1)))) (.k (.int (1)))) (.lst false [])) [(.ret (.k (.bl false)))] []), (.ret (.and (.cmp .ge (.ix (.v 0) (.k (.int (1)))) (.k (.int (1)))) (.cmp .eq (.call 14 [(.ix (.v 0) (.k (.int (0)))), (.ix (.v 0) (.k (.int (1))))]) (.v 0))))], none⟩
def g16 : Def := ⟨2, 3, [(.ret (.and (.isi .tuple (.v 1)) (.and (.cmp .eq (.bi .len [(.v 1)]) (.v 0)) (.cmp .eq (.lc false [2] (.n 2) .it [(.v 1)] (some (.not (.callB 15 [(.v 2)]))) (.k (.int (1)))) (.lst false [])))))], none⟩
def g17 : Def := ⟨3, 4, [(.ite (.or (.not (.isi .tuple (.v 2))) (.cmp .ne (.bi .len [(.v 2)]) (.v 0))) [(.ret (.k (.bl false)))] []), (.ret (.cmp .eq (.lc false [3] (.n 3) .it [(.v 2)] (some (.not (.callB 16 [(.v 1), (.v 3)]))) (.k (.int (1)))) (.lst false [])))], none⟩
def g18 : Def := ⟨3, 7, [(.set 3 (.lst false [(.tup [(.k (.int (0))), (.k (.int (1)))]), (.tup [(.k (.int (0))), (.k (.int (1)))]), (.tup [(.k (.int (0))), (.k (.int (1)))]), (.tup [(.k (.int (1))), (.k (.int (1)))]), (.tup [(.k (.int (1))), (.k (.int (1)))]), (.tup [(.neg (.k (.int (1)))), (.k (.int (1)))]), (.tup [(.k (.int (2))), (.k (.int (1)))]), (.tup [(.k (.int (1))), (.k (.int (2)))])])), (.set 4 (.bi .tuple [(.lc false [5] (.n 5) .rng1 [(.v 1)] none (.bi .tuple [(.lc false [6] (.n 6) .rng1 [(.bin .add (.v 1) (.v 2))] none (.callB 13 [(.v 0), (.v 3)]))]))])), (.ret (.dct [.inr "places", .inr "table", .inr "hands"] [(.bi .tuple [(.lc false [5] (.n 5) .rng1 [(.v 1)] none (.bin .add (.k (.str "p")) (.bi .str [(.v 5)])))]), (.v 4), (.bi .tuple [(.lc false [5] (.n 5) .rng1 [(.v 2)] none (.bin .add (.k (.str "h")) (.bi .str [(.v 5)])))])]))], none⟩
def g19 : Def := ⟨1, 2, [(.ite (.or (.not (.isi .str (.v 0))) (.or (.not (.chain .le .le (.k (.int (1))) (.bi .len [(.v 0)]) (.k (.int (12))))) (.not (.chain .le .le (.k (.str "a")) (.ix (.v 0) (.k (.int (0)))) (.k (.str "z")))))) [(.ret (.k (.bl false)))] []), (.ret (.cmp .eq (.lc false [1] (.n 1) .it [(.v 0)] (some (.cmp .nin (.v 1) (.k (.str "abcdefghijklmnopqrstuvwxyz0123456789.")))) (.v 1)) (.lst false [])))], none⟩
def g20 : Def := ⟨3, 6, [(.ite (.or (.not (.isi .tuple (.v 0))) (.not (.chain .le .le (.v 1) (.bi .len [(.v 0)]) (.v 2)))) [(.ret (.k (.bl false)))] []), (.ite (.cmp .ne (.lc false [3] (.n 3) .it [(.v 0)] (some (.not (.callB 19 [(.v 3)]))) (.k (.int (1)))) (.lst false [])) [(.ret (.k (.bl false)))] []), (.ret (.cmp .eq (.lc false [4, 5] (.t [.n 4, .n 5]) .zip [(.v 0), (.sl (.v 0) (some (.k (.int (1)))) none)] (some (.cmp .ge (.v 4) (.v 5))) (.k (.int (1)))) (.lst false [])))], none⟩
def g21 : Def := ⟨3, 5, [(.ite (.not (.call 20 [(.v 0), (.k (.int (1))), (.k (.int (5)))])) [(.ret (.tup [(.k (.str "places"))]))] []), (.ite (.not (.call 20 [(.v 1), (.k (.int (0))), (.k (.int (4)))])) [(.ret (.tup [(.k (.str "hands"))]))] []), (.set 3 (.bi .sorted [(.lc false [4] (.n 4) .it [(.v 0)] (some (.cmp .inn (.v 4) (.v 1))) (.bi .str [(.v 4)]))])), (.ite (.cmp .ne (.v 3) (.lst false [])) [(.ret (.tup [(.k (.str "twice")), (.ix (.v 3) (.k (.int (0))))]))] []), (.ret (.ite (.call 17 [(.bi .len [(.v 0)]), (.bin .add (.bi .len [(.v 0)]) (.bi .len [(.v 1)])), (.v 2)]) (.k (.non)) (.tup [(.k (.str "table"))])))], none⟩
def g22 : Def := ⟨2, 4, [(.set 2 (.lst false [(.v 1), (.v 1), (.v 1), (.bin .add (.v 1) (.tup [(.k (.str "zz"))])), (.rev (.v 1)), (.bi .list [(.v 1)]), (.bin .add (.v 1) (.sl (.v 1) none (some (.k (.int (1)))))), (.k (.non)), (.tup [(.k (.str "A"))]), (.tup [(.k (.int (1)))])])), (.set 2 (.bin .add (.v 2) (.lst false [(.sl (.v 1) (some (.k (.int (1)))) none), (.tup []), (.tup [(.k (.str "a b"))]), (.tup [(.k (.str "abcdefghijklm"))]), (.tup [(.k (.str "abcdefghijkl"))]), (.k (.str "ab")), (.bin .add (.v 1) (.tup [(.k (.str "a"))])), (.tup [(.k (.str "b")), (.k (.str "a"))])]))), (.ret (.call 13 [(.v 0), (.bin .add (.v 2) (.lst false [(.bi .tuple [(.lc false [3] (.n 3) .rng1 [(.call 12 [(.v 0), (.k (.int (9)))])] none (.bin .add (.k (.str "n")) (.bi .str [(.v 3)])))])]))]))], none⟩
def g23 : Def := ⟨2, 5, [(.set 2 (.lst false [(.v 1), (.v 1), (.v 1), (.sl (.v 1) (some (.k (.int (1)))) none), (.bin .add (.v 1) (.sl (.v 1) none (some (.k (.int (1)))))), (.bi .list [(.v 1)]), (.k (.non)), (.tup []), (.k (.str "table")), (.k (.int (0))), (.bin .add (.sl (.v 1) none (some (.neg (.k (.int (1)))))) (.tup [(.k (.non))]))])), (.set 3 (.ite (.cmp .ne (.v 1) (.tup [])) (.ix (.v 1) (.neg (.k (.int (1))))) (.tup []))), (.set 2 (.bin .add (.v 2) (.lst false [(.bin .add (.sl (.v 1) none (some (.neg (.k (.int (1)))))) (.tup [(.sl (.v 3) (some (.k (.int (1)))) none)])), (.bin .add (.sl (.v 1) none (some (.neg (.k (.int (1)))))) (.tup [(.bin .add (.v 3) (.tup [(.tup [(.k (.int (0))), (.k (.int (1)))])]))])), (.bin .add (.sl (.v 1) none (some (.neg (.k (.int (1)))))) (.tup [(.bi .list [(.v 3)])]))]))), (.set 2 (.bin .add (.v 2) (.lc false [4] (.n 4) .it [(.tup [(.tup [(.k (.int (2))), (.k (.int (2)))]), (.k (.int (1))), (.tup [(.k (.int (1))), (.k (.int (0)))]), (.tup [(.k (.bl true)), (.k (.int (1)))]), (.k (.non)), (.tup [(.bin .pow (.k (.int (10))) (.k (.int (40)))), (.k (.int (7)))])])] none (.bin .add (.sl (.v 1) none (some (.neg (.k (.int (1)))))) (.tup [(.bin .add (.sl (.v 3) none (some (.neg (.k (.int (1)))))) (.tup [(.v 4)]))]))))), (.ret (.call 13 [(.v 0), (.v 2)]))], none⟩
def g24 : Def := ⟨3, 3, [(.tr [(.ret (.isc 2 (.mk 2 [(.v 0), (.v 1), (.v 2)])))] [(1, .ret (.bl false))])], none⟩
def g25 : Def := ⟨1, 6, [(.set 1 (.call 18 [(.v 0), (.bin .add (.k (.int (1))) (.call 12 [(.v 0), (.k (.int (5)))])), (.call 12 [(.v 0), (.k (.int (5)))])])), (.setT [2, 3] [(.call 22 [(.v 0), (.ix (.v 1) (.k (.str "places")))]), (.call 22 [(.v 0), (.ix (.v 1) (.k (.str "hands")))])]), (.set 4 (.call 23 [(.v 0), (.ix (.v 1) (.k (.str "table")))])), (.ite (.cmp .eq (.call 12 [(.v 0), (.k (.int (4)))]) (.k (.int (0)))) [(.setT [2, 3] [(.ix (.v 1) (.k (.str "places"))), (.bi .tuple [(.bi .sorted [(.bin .add (.bi .list [(.sl (.ix (.v 1) (.k (.str "places"))) none (some (.bin .add (.k (.int (1))) (.call 12 [(.v 0), (.k (.int (2)))]))))]) (.lst false [(.k (.str "q"))]))])])])] []), (.set 5 (.call 21 [(.v 2), (.v 3), (.v 4)])), (.ite (.cmp .ne (.bi .repr [(.call 10 [(.v 2), (.v 3), (.v 4)])]) (.bi .repr [(.v 5)])) [(.ret (.k (.bl false)))] []), (.ret (.cmp .eq (.call 24 [(.v 2), (.v 3), (.v 4)]) (.cmp .is (.v 5) (.k (.non)))))], none⟩
def g26 : Def := ⟨1, 6, [(.fo (.n 1) .rng1 [(.bi .max [(.k (.int (1))), (.bi .min [(.k (.int (6))), (.bi .len [(.v 0)])])])] [(.set 2 (.call 11 [(.v 0), (.v 1)])), (.fo (.n 3) .rng1 [(.k (.int (8)))] [(.ite (.not (.call 25 [(.v 2)])) [(.ret (.k (.bl false)))] [])])]), (.set 4 (.tup [(.k (.int (1))), (.k (.int (1)))])), (.set 5 (.lst false [(.call 10 [(.tup [(.k (.str "a")), (.k (.str "b"))]), (.tup [(.k (.str "b")), (.k (.str "a"))]), (.tup [])]), (.call 10 [(.tup [(.k (.str "a")), (.k (.str "b"))]), (.tup [(.k (.str "a")), (.k (.str "b"))]), (.k (.non))])])), (.set 5 (.bin .add (.v 5) (.lst false [(.call 10 [(.tup [(.k (.str "a"))]), (.tup []), (.tup [(.tup [(.v 4)])])]), (.call 10 [(.tup [(.k (.str "a"))]), (.tup [(.k (.str "h"))]), (.tup [(.tup [(.v 4)])])])]))), (.ret (.cmp .eq (.v 5) (.lst false [(.tup [(.k (.str "hands"))]), (.tup [(.k (.str "twice")), (.k (.str "a"))]), (.k (.non)), (.tup [(.k (.str "table"))])])))], none⟩
def g27 : Def := ⟨3, 5, [(.set 4 (.call 10 [(.v 1), (.v 2), (.v 3)])), (.ite (.cmp .isn (.v 4) (.k (.non))) [(.raise 1 (.fst "no works: " (.v 4) ""))] [])], some (2, [(["own_places", "own_hands", "own_table"], [(.v 1), (.v 2), (.v 3)]), (["own_width", "own_wide"], [(.bi .len [(.v 1)]), (.bin .add (.bi .len [(.v 1)]) (.bi .len [(.v 2)]))]), (["own_free"], [(.bi .tuple [(.lc false [5] (.n 5) .it [(.v 3)] none (.sl (.v 5) none (some (.bi .len [(.v 1)]))))])]), (["own_columns"], [(.call 7 [(.lc false [5] (.n 5) .it [(.v 3)] none (.sl (.v 5) (some (.bi .len [(.v 1)])) none)), (.bi .len [(.v 2)])])])])⟩
def g28 : Def := ⟨1, 1, [(.ret (.fld (.v 0) "own_places"))], none⟩
def g29 : Def := ⟨1, 1, [(.ret (.fld (.v 0) "own_hands"))], none⟩
def g30 : Def := ⟨1, 1, [(.ret (.fld (.v 0) "own_table"))], none⟩
def g31 : Def := ⟨1, 1, [(.ret (.fld (.v 0) "own_width"))], none⟩
def g32 : Def := ⟨1, 1, [(.expr (.call 0 [(.k (.int (0)))]))], none⟩
def g33 : Def := ⟨1, 1, [(.expr (.call 0 [(.k (.int (1)))]))], none⟩
def g34 : Def := ⟨1, 1, [(.ret (.fld (.v 0) "own_columns"))], none⟩
def g35 : Def := ⟨3, 3, [(.expr (.call 0 [(.k (.int (2)))]))], none⟩
def g36 : Def := ⟨2, 2, [(.expr (.call 0 [(.k (.int (3)))]))], none⟩
def g37 : Def := ⟨2, 2, [(.expr (.call 0 [(.k (.int (4)))]))], none⟩
def g38 : Def := ⟨3, 3, [(.expr (.call 0 [(.k (.int (5)))]))], none⟩
def g39 : Def := ⟨3, 3, [(.expr (.call 0 [(.k (.int (6)))]))], none⟩
def g40 : Def := ⟨2, 2, [(.ite (.or (.not (.isc 2 (.v 1))) (.cmp .ne (.fld (.v 0) "own_places") (.fld (.v 1) "own_places"))) [(.ret (.k (.bl false)))] []), (.ret (.and (.cmp .eq (.fld (.v 0) "own_hands") (.fld (.v 1) "own_hands")) (.cmp .eq (.fld (.v 0) "own_table") (.fld (.v 1) "own_table"))))], none⟩
def g41 : Def := ⟨1, 1, [.bad], none⟩
def FF : Nat := 3000
def G : Prog := ⟨mtOf gc, prOf gc, mkOf gc, [g0, g1, g2, g3, g4, g5, g6, g7, g8, g9, g10, g11, g12, g13, g14, g15, g16, g17, g18, g19, g20, g21, g22, g23, g24, g25, g26, g27, g28, g29, g30, g31, g32, g33, g34, g35, g36, g37, g38, g39, g40, g41], rsOf exs, suOf exs, FF⟩
theorem G_eq : progOf gc FF = G := by kernel_rfl
end Lw28
/-! Mq1: the evaluator's equations; sizes; fractions. -/
namespace Mn
open PySem
section
variable (G : Prog) (cal : Nat → List D → Sto → R D) (fr : Nat) (s : Ev) (n : Nat) (L : Loc) (S : Sto) (rs : Option (Nat → P → Option Ex)) (su : Nat → Nat → Option Bool)
@[simp] theorem q_ok {α β : Type} (a : α) (f : α → Sto → R β) : R.bind (.ok a S) f = f a S := rfl
@[simp] theorem q_exb {α β : Type} (a : Ex) (f : α → Sto → R β) : R.bind (.ex a S) f = .ex a S := rfl
@[simp] theorem q_badb {α β : Type} (f : α → Sto → R β) : R.bind .bad f = .bad := rfl
@[simp] theorem q_fl {α : Type} (a : α) (f : α → Sto → Fl) : R.fl L (.ok a S) f = f a S := rfl
@[simp] theorem q_flb {α : Type} (f : α → Sto → Fl) : R.fl L .bad f = .bad := rfl
@[simp] theorem q_thn (f : Loc → Sto → Fl) : Fl.then (.nx L S) f = f L S := rfl
@[simp] theorem q_tht (d : D) (f : Loc → Sto → Fl) : Fl.then (.rt d S) f = .rt d S := rfl
@[simp] theorem q_evE (e : E) : (ev G cal fr (n + 1)).e e L S = evE cal fr (ev G cal fr n) e L S := rfl
@[simp] theorem q_evT (e : E) : (ev G cal fr (n + 1)).t e L S = evT cal fr (ev G cal fr n) e L S := rfl
@[simp] theorem q_evC (b : List C) : (ev G cal fr (n + 1)).c b L S = evCs (ev G cal fr n) (rsF G fr) G.su b L S := rfl
@[simp] theorem q_nil : evCs s rs su [] L S = .nx L S := rfl
@[simp] theorem q_cons (c : C) (cs : List C) : evCs s rs su (c :: cs) L S = (evC s rs su c L S).then fun L1 S1 => evCs s rs su cs L1 S1 := rfl
@[simp] theorem q_es0 : evs s [] L S = .ok [] S := rfl
@[simp] theorem q_es (e : E) (es : List E) : evs s (e :: es) L S = (s.e e L S).bind fun d S1 => (evs s es L S1).bind fun ds S2 => .ok (d :: ds) S2 := rfl
@[simp] theorem q_v (i : Nat) : evE cal fr s (.v i) L S = match L[i]? with | some (some d) => .ok d S | _ => .bad := rfl
@[simp] theorem q_k (x : P) : evE cal fr s (.k x) L S = .ok (.p x) S := rfl
@[simp] theorem q_bin (o : Bo) (a b : E) : evE cal fr s (.bin o a b) L S = (s.e a L S).bind fun x S1 => (s.e b L S1).bind fun y S2 => binR o x y S2 := rfl
@[simp] theorem q_neg (a : E) : evE cal fr s (.neg a) L S = (s.e a L S).bind fun x S1 => negR x S1 := rfl
@[simp] theorem q_not (a : E) : evE cal fr s (.not a) L S = (s.e a L S).bind fun x S1 => (truR x S1).bind fun b S2 => .ok (.p (.bl (!b))) S2 := rfl
@[simp] theorem q_and (a b : E) : evE cal fr s (.and a b) L S = (s.e a L S).bind fun x S1 => (truR x S1).bind fun k S2 => if k then s.e b L S2 else .ok x S2 := rfl
@[simp] theorem q_or (a b : E) : evE cal fr s (.or a b) L S = (s.e a L S).bind fun x S1 => (truR x S1).bind fun k S2 => if k then .ok x S2 else s.e b L S2 := rfl
@[simp] theorem q_cmp (o : Co) (a b : E) : evE cal fr s (.cmp o a b) L S = (s.e a L S).bind fun x S1 => (s.e b L S1).bind fun y S2 => cmpR o x y S2 := rfl
@[simp] theorem q_chain (o o' : Co) (a b c : E) : evE cal fr s (.chain o o' a b c) L S = (s.e a L S).bind fun x S1 => (s.e b L S1).bind fun y S2 => (cmpR o x y S2).bind fun z S3 => match z with
    | .p (.bl true) => (s.e c L S3).bind fun w S4 => cmpR o' y w S4
    | .p (.bl false) => .ok (.p (.bl false)) S3
    | _ => .bad := rfl
@[simp] theorem q_ite (t a b : E) : evE cal fr s (.ite t a b) L S = (s.t t L S).bind fun k S1 => if k then s.e a L S1 else s.e b L S1 := rfl
@[simp] theorem q_tup (es : List E) : evE cal fr s (.tup es) L S = (evs s es L S).bind fun ds S1 => tupR ds S1 := rfl
@[simp] theorem q_lst (own : Bool) (es : List E) : evE cal fr s (.lst own es) L S = (evs s es L S).bind fun ds S1 => lstR own ds S1 := rfl
@[simp] theorem q_call (f : Nat) (es : List E) : evE cal fr s (.call f es) L S = (evs s es L S).bind fun ds S1 => callR cal fr L f ds S1 := rfl
@[simp] theorem q_callB (f : Nat) (es : List E) : evE cal fr s (.callB f es) L S = (evs s es L S).bind fun ds S1 => callB cal f ds S1 := rfl
@[simp] theorem q_calL (i : Nat) (es : List E) : evE cal fr s (.calL i es) L S = match L[i]? with
    | some (some d) => if calB d then (evs s es L S).bind fun ds S1 => callL cal fr L d ds S1 else .bad
    | _ => .bad := rfl
@[simp] theorem q_lam0 (f : Nat) : evE cal fr s (.lam f []) L S = .ok (.p (.lamc f)) S := rfl
@[simp] theorem q_lam (f i : Nat) (sl : List Nat) : evE cal fr s (.lam f (i :: sl)) L S = .ok (.lam f (i :: sl) fr) S := rfl
@[simp] theorem q_cat (a b : E) : evE cal fr s (.cat a b) L S = (s.e a L S).bind fun x S1 => (s.e b L S1).bind fun y S2 => catR x y S2 := rfl
@[simp] theorem q_bi (b : Bi) (es : List E) : evE cal fr s (.bi b es) L S = (evs s es L S).bind fun ds S1 => biR b ds S1 := rfl
@[simp] theorem q_isi (T : Ty) (e : E) : evE cal fr s (.isi T e) L S = (s.e e L S).bind fun x S1 => isiR T x S1 := rfl
@[simp] theorem q_ix (a b : E) : evE cal fr s (.ix a b) L S = (s.e a L S).bind fun x S1 => (s.e b L S1).bind fun y S2 => ixR x y S2 := rfl
@[simp] theorem q_rev (a : E) : evE cal fr s (.rev a) L S = (s.e a L S).bind fun x S1 => revR x S1 := rfl
@[simp] theorem q_tnot (a : E) : evT cal fr s (.not a) L S = (s.t a L S).bind fun b S1 => .ok (!b) S1 := rfl
@[simp] theorem q_tand (a b : E) : evT cal fr s (.and a b) L S = (s.t a L S).bind fun k S1 => if k then s.t b L S1 else .ok false S1 := rfl
@[simp] theorem q_tor (a b : E) : evT cal fr s (.or a b) L S = (s.t a L S).bind fun k S1 => if k then .ok true S1 else s.t b L S1 := rfl
@[simp] theorem q_tv (i : Nat) : evT cal fr s (.v i) L S = (evE cal fr s (.v i) L S).bind fun x S1 => truR x S1 := rfl
@[simp] theorem q_tcmp (o : Co) (a b : E) : evT cal fr s (.cmp o a b) L S = (evE cal fr s (.cmp o a b) L S).bind fun x S1 => truR x S1 := rfl
@[simp] theorem q_tchain (o o' : Co) (a b c : E) : evT cal fr s (.chain o o' a b c) L S = (evE cal fr s (.chain o o' a b c) L S).bind fun x S1 => truR x S1 := rfl
@[simp] theorem q_tcall (f : Nat) (es : List E) : evT cal fr s (.call f es) L S = (evE cal fr s (.call f es) L S).bind fun x S1 => truR x S1 := rfl
@[simp] theorem q_tbi (b : Bi) (es : List E) : evT cal fr s (.bi b es) L S = (evE cal fr s (.bi b es) L S).bind fun x S1 => truR x S1 := rfl
@[simp] theorem q_tisi (T : Ty) (e : E) : evT cal fr s (.isi T e) L S = (evE cal fr s (.isi T e) L S).bind fun x S1 => truR x S1 := rfl
@[simp] theorem q_set (i : Nat) (e : E) : evC s rs su (.set i e) L S = R.fl L (s.e e L S) fun d S1 => if i < L.length then .nx (setL L i d) S1 else .bad := rfl
@[simp] theorem q_setT (is : List Nat) (es : List E) : evC s rs su (.setT is es) L S = R.fl L (evs s es L S) fun ds S1 => match setN is ds L with | some L1 => .nx L1 S1 | none => .bad := rfl
@[simp] theorem q_expr (e : E) : evC s rs su (.expr e) L S = R.fl L (s.e e L S) fun _ S1 => .nx L S1 := rfl
@[simp] theorem q_ret (e : E) : evC s rs su (.ret e) L S = R.fl L (s.e e L S) fun d S1 => .rt d S1 := rfl
@[simp] theorem q_cite (t : E) (a b : List C) : evC s rs su (.ite t a b) L S = R.fl L (s.t t L S) fun k S1 => if k then s.c a L S1 else s.c b L S1 := rfl
@[simp] theorem q_setIx (o i e : E) : evC s rs su (.setIx o i e) L S = R.fl L (s.e e L S) fun d S1 => R.fl L (s.e o L S1) fun x S2 => R.fl L (s.e i L S2) fun y S3 => match x, y with
    | .ref n, .p (.int i) => match S3[n]? with
      | some (.lst ds) => match ixN ds.length i with
        | some j => if putD d then .nx L (S3.set n (.lst (ds.set j d))) else .bad
        | none => .bad
      | none => .bad
    | _, _ => .bad := rfl
@[simp] theorem q_app (o e : E) : evC s rs su (.app o e) L S = R.fl L (s.e o L S) fun x S1 => match x with
    | .ref n => match S1[n]? with
      | some _ => R.fl L (s.e e L S1) fun d S2 => match S2[n]? with
        | some (.lst ds) => if Nat.blt ds.length line && putD d then .nx L (S2.set n (.lst (ds ++ [d]))) else .bad
        | none => .bad
      | none => .bad
    | _ => .bad := rfl
@[simp] theorem q_unp (tg : Tg) (e : E) : evC s rs su (.unp tg e) L S = R.fl L (s.e e L S) fun d S1 => match asg tg d L with
    | some L1 => .nx L1 S1
    | none => .bad := rfl
theorem q_wh (t : E) (b : List C) : evC s rs su (.wh t b) L S = R.fl L (s.t t L S) fun k S1 => if k then (match s.c b L S1 with
      | .nx L2 S2 => s.c [.wh t b] L2 S2
      | .ct L2 S2 => s.c [.wh t b] L2 S2
      | .bk L2 S2 => .nx L2 S2
      | r => r) else .nx L S1 := rfl
theorem q_fo (tg : Tg) (k : Sk) (es : List E) (b : List C) : evC s rs su (.fo tg k es b) L S = R.fl L ((evs s es L S).bind fun ds S1 => walkR k ds S1) fun ps S1 => foP s tg b ps L S1 := rfl
theorem q_lc (own : Bool) (vs : List Nat) (tg : Tg) (k : Sk) (es : List E) (cond : Option E) (el : E) : evE cal fr s (.lc own vs tg k es cond el) L S = (evs s es L S).bind fun ds S1 => (walkR k ds S1).bind fun ps S2 =>
    (noEx (lcP s (wipeL L vs) tg cond el ps S2)).bind fun xs S3 =>
      if xs.length < line then (if own then .ok (.ref S3.length) (S3 ++ [.lst (xs.map .p)]) else .ok (.p (.lst xs)) S3) else .bad := rfl
theorem q_lc0 (tg : Tg) (cond : Option E) (el : E) : lcP s L tg cond el [] S = .ok [] S := rfl
theorem q_lc1 (tg : Tg) (el : E) (p : P) (ps : List P) : lcP s L tg none el (p :: ps) S = match asg tg (.p p) L with
    | none => .bad
    | some L1 => (s.e el L1 S).bind fun d S2 => match d with
        | .p x => (lcP s L tg none el ps S2).bind fun xs S3 => .ok (x :: xs) S3
        | _ => .bad := rfl
theorem q_fo0 (tg : Tg) (b : List C) : foP s tg b [] L S = .nx L S := rfl
theorem q_fo1 (tg : Tg) (b : List C) (p : P) (ps : List P) : foP s tg b (p :: ps) L S = match asg tg (.p p) L with
    | none => .bad
    | some L1 => match s.c b L1 S with
      | .nx L2 S2 => foP s tg b ps L2 S2
      | .ct L2 S2 => foP s tg b ps L2 S2
      | .bk L2 S2 => .nx L2 S2
      | r => r := rfl
@[simp] theorem q_noex {α : Type} (a : α) : noEx (.ok a S) = .ok a S := rfl
@[simp] theorem q_end (k : Nat) (x : P) : endR k (.rt (.p x) S) = .ok (.p x) (san k S) := rfl
@[simp] theorem q_endr (k m : Nat) : endR k (.rt (.ref m) S) = .ok (.ref m) (san k S) := rfl
@[simp] theorem q_endn (k : Nat) : endR k (.nx L S) = .ok (.p .non) (san k S) := rfl
@[simp] theorem q_dp (x : P) : der S (.p x) = some x := rfl
@[simp] theorem q_lift {α : Type} (a : α) : lift S (some a) = .ok a S := rfl
@[simp] theorem q_liftP (a : P) : liftP S (some a) = .ok (.p a) S := rfl
@[simp] theorem q_evB (b : Bool) : evB (some b) S = .ok (.p (.bl b)) S := rfl
@[simp] theorem q_trub (b : Bool) : truR (.p (.bl b)) S = .ok b S := rfl
end
/-! ### cells of data alone -/
def isP : D → Bool
  | .p _ => true
  | _ => false
def plM : MO → Bool
  | .lst ds => ds.all isP
/-- all cells hold data -/
def Pl (S : Sto) : Prop := S.all plM = true
theorem sanD_p {n : Nat} : ∀ {ds : List D}, ds.all isP = true → ds.map (sanD n) = ds
  | [], _ => rfl
  | d :: ds, h => by
    rw [List.all_cons, Bool.and_eq_true] at h
    rw [List.map_cons, sanD_p h.2]
    cases d with
    | p x => rfl
    | _ => cases h.1
theorem san_pl {n : Nat} {S : Sto} (h : Pl S) : san n S = S := by
  unfold san
  unfold Pl at h
  induction S with
  | nil => rfl
  | cons m S ih =>
    rw [List.all_cons, Bool.and_eq_true] at h
    rw [List.map_cons, ih h.2]
    obtain ⟨ds⟩ := m
    show MO.lst (ds.map (sanD n)) :: S = _
    rw [sanD_p (show ds.all isP = true from h.1)]
theorem Pl.set {S : Sto} (h : Pl S) {n : Nat} {ds : List D} (hd : ds.all isP = true) : Pl (S.set n (.lst ds)) := by
  unfold Pl at h ⊢
  rw [List.all_eq_true] at h ⊢
  intro m hm
  rcases List.mem_or_eq_of_mem_set hm with z | z
  · exact h m z
  · rw [z]; exact hd
theorem Pl.app {S : Sto} (h : Pl S) {ds : List D} (hd : ds.all isP = true) : Pl (S ++ [.lst ds]) := by
  unfold Pl at h ⊢
  rw [List.all_append, h]
  simpa [plM] using hd
/-! ### == -/
theorem eq_int (a b : Int) : eqO (.int a) (.int b) = some (decide (a = b)) := by
  show some (PyData.eqv (.int a) (.int b)) = _
  simp [PyData.eqv, Bool.beq_eq_decide_eq]
theorem eq_str (a b : Str) : eqO (.str a) (.str b) = some (decide (a = b)) := rfl
theorem eq_pair (a b c d : Int) : eqO (.tup [.int a, .int b]) (.tup [.int c, .int d]) = some (decide (a = c) && decide (b = d)) := by
  show some (PyData.eqv (.tuple [.int a, .int b]) (.tuple [.int c, .int d])) = _
  simp [PyData.eqv, PyData.eqvAll, Bool.beq_eq_decide_eq]
/-! ### sizes -/
theorem log_lt {n k : Nat} (h : n < 2 ^ k) : n.log2 ≤ k := by
  by_cases h0 : n = 0
  · subst h0; simp
  · exact Nat.le_of_lt ((Nat.log2_lt h0).mpr h)
theorem mul_ok {i j : Int} {a b : Nat} (hi : i.natAbs < 2 ^ a) (hj : j.natAbs < 2 ^ b) (h : a + b < 134217726) : mulOk i j = true := by
  unfold mulOk
  have h1 := log_lt hi
  have h2 := log_lt hj
  exact Nat.blt_eq.mpr (by omega)
theorem fdiv_ok {i j : Int} {b : Nat} (h0 : 0 < j) (hj : j.natAbs < 2 ^ b) (h : b < 9000) : fdivOk i j = true := by
  unfold fdivOk
  rw [decide_eq_true h0, PyProof.noPylong_of_log2 (Nat.lt_of_le_of_lt (log_lt hj) h)]
  rfl
end Mn
namespace Lw28
open PySem Mn
abbrev I (i : Int) : D := .p (.int i)
def N0 : Nat := 2960
theorem runF (k i : Nat) (ds : List D) (S : Sto) (d : Def) (h : G.ds[i]? = some d) (hl : ds.length = d.np) (hf : d.fl = none := by rfl) : evF G (k + 1) i ds S = endR k (evCs (ev G (evF G k) k (N0 + 39)) (rsF G k) G.su d.b (ds.map some ++ List.replicate (d.nl - d.np) none) S) := by
  unfold evF
  rw [h]
  dsimp only
  rw [if_pos hl, hf]
  rfl
/-! ### dice -/
/-- the dice at n: at most m were taken; all cells hold data -/
def Dc (S : Sto) (n : Nat) (m : Nat) : Prop := Pl S ∧ ∃ g s c : Int, S[n]? = some (.lst [I g, I s, I c]) ∧ 0 ≤ g ∧ 0 ≤ c ∧ c ≤ m ∧ s.natAbs < 2 ^ 100
theorem Dc.mono {S : Sto} {n a b : Nat} (h : Dc S n a) (l : a ≤ b) : Dc S n b := by
  obtain ⟨p, g, s, c, h1, h2, h3, h4, h5⟩ := h
  exact ⟨p, g, s, c, h1, h2, h3, by omega, h5⟩
/-- a cell of data more -/
theorem Dc.app {S : Sto} {n m : Nat} {ds : List D} (h : Dc S n m) (hd : ds.all isP = true) : Dc (S ++ [.lst ds]) n m := by
  obtain ⟨p, g, s, c, h1, h2⟩ := h
  exact ⟨p.app hd, g, s, c, by rw [List.getElem?_append_left (List.getElem?_eq_some_iff.mp h1).1]; exact h1, h2⟩
section
variable (k : Nat)
theorem c21 (S : Sto) {n m : Nat} {t : Int} (h : Dc S n m) (hm : m < 2 ^ 100) (ht : 0 < t) (hs : t.natAbs < 2 ^ 100) : ∃ v S', evF G (k + 1) 12 [.ref n, I t] S = .ok (I v) S' ∧ 0 ≤ v ∧ v < t ∧ Dc S' n (m + 1) ∧ S'.length = S.length := by
  obtain ⟨pl, g, s, c, h1, h2, h3, h4, h5⟩ := h
  have e : evF G (k + 1) 12 [.ref n, I t] S = endR k (evCs (ev G (evF G k) k (N0 + 39)) (rsF G k) G.su g12.b [some (.ref n), some (I t), none, none, none] S) := runF k 12 [.ref n, I t] S g12 rfl rfl
  have hn : n < S.length := (List.getElem?_eq_some_iff.mp h1).1
  have gs : ∀ x, (S.set n x)[n]? = some x := fun x => List.getElem?_set_self hn
  have m1 : mulOk 49979687 (c + 1) = true := mul_ok (a := 30) (b := 101) (by decide) (by omega) (by decide)
  have m2 : mulOk 131 (c + 1) = true := mul_ok (a := 8) (b := 101) (by decide) (by omega) (by decide)
  have ps : ∀ a b d : Int, Pl (S.set n (.lst [I a, I b, I d])) := fun a b d => pl.set rfl
  have pd : ∀ z : Int, putD (I z) = true := fun _ => rfl
  rw [e]
  by_cases hg : 0 < g
  · have f1 := fdiv_ok (i := g) ht hs (by decide)
    refine ⟨g % t, S.set n (.lst [I (g / t), I s, I c]), ?_, Int.emod_nonneg _ (by omega), Int.emod_lt_of_pos _ ht, ⟨ps _ _ _, g / t, s, c, gs _, Int.ediv_nonneg h2 (by omega), h3, by omega, h5⟩, List.length_set ..⟩
    have sn : san k (S.set n (.lst [I (g / t), I s, I c])) = S.set n (.lst [I (g / t), I s, I c]) := san_pl (ps _ _ _)
    simp [g12, cmpR, cmpo, ixR, h1, ixN, hg, binR, Mn.bin, ht, f1, setL, biR, ders, blt, Mn.one, int1, sn, putD]
  · generalize hone : (s + 49979687 * (c + 1)) % 2305843009213693951 = one
    have o1 : 0 ≤ one := by rw [← hone]; exact Int.emod_nonneg _ (by decide)
    have o2 : one < 2305843009213693951 := by rw [← hone]; exact Int.emod_lt_of_pos _ (by decide)
    have m3 : mulOk one one = true := mul_ok (a := 62) (b := 62) (by omega) (by omega) (by decide)
    generalize htw : (one * one + 131 * (c + 1)) % 2305843009213693921 = tw
    have w1 : 0 ≤ tw := by rw [← htw]; exact Int.emod_nonneg _ (by decide)
    have w2 : tw < 2305843009213693921 := by rw [← htw]; exact Int.emod_lt_of_pos _ (by decide)
    have m4 : mulOk tw 32452843 = true := mul_ok (a := 62) (b := 26) (by omega) (by decide) (by decide)
    have f2 := fdiv_ok (i := tw * 32452843 + one) (j := 65587) (b := 20) (by decide) (by decide) (by decide)
    refine ⟨(tw * 32452843 + one) / 65587 % t, S.set n (.lst [I g, I s, I (c + 1)]), ?_, Int.emod_nonneg _ (by omega), Int.emod_lt_of_pos _ ht, ⟨ps _ _ _, g, s, c + 1, gs _, h2, by omega, by omega, h5⟩, List.length_set ..⟩
    have sn : san k (S.set n (.lst [I g, I s, I (c + 1)])) = S.set n (.lst [I g, I s, I (c + 1)]) := san_pl (ps _ _ _)
    simp [g12, cmpR, cmpo, ixR, h1, ixN, hg, binR, Mn.bin, ht, setL, biR, ders, blt, Mn.one, int1, gs, m1, m2, hone, m3, htw, m4, f2, sn, putD]
/-- a call with a cell runs with the store -/
theorem cr_ref (cal : Nat → List D → Sto → Mn.R D) (fr : Nat) (L : Mn.Loc) (f n : Nat) (x y : P) (S S' : Sto) (h : cal f [.ref n, .p x] S = .ok (.p y) S') : callR cal fr L f [.ref n, .p x] S = .ok (.p y) S' := by
  show callS cal f [.ref n, .p x] S = _
  unfold callS
  rw [h]
  rfl
theorem cr_ref1 (cal : Nat → List D → Sto → Mn.R D) (fr : Nat) (L : Mn.Loc) (f n : Nat) (y : P) (S S' : Sto) (h : cal f [.ref n] S = .ok (.p y) S') : callR cal fr L f [.ref n] S = .ok (.p y) S' := by
  show callS cal f [.ref n] S = _
  unfold callS
  rw [h]
  rfl
theorem c22 (S : Sto) {n m : Nat} {items : List P} (h : Dc S n m) (hm : m < 2 ^ 100) (h0 : 0 < items.length) (hl : items.length < 2 ^ 60) :
    ∃ (x : P) (S' : Sto), x ∈ items ∧ evF G (k + 2) 13 [.ref n, .p (.lst items)] S = .ok (.p x) S' ∧ Dc S' n (m + 1) ∧ S'.length = S.length := by
  obtain ⟨v, S', r, v0, v1, d, nx⟩ := c21 k S (t := items.length) h hm (by omega) (by omega)
  have hv : v.toNat < items.length := by omega
  have hx : ixN items.length v = some v.toNat := by
    unfold ixN
    rw [if_pos v0, if_pos v1]
  refine ⟨items[v.toNat], S', List.getElem_mem hv, ?_, d, nx⟩
  rw [runF (k + 1) 13 [.ref n, .p (.lst items)] S g13 rfl rfl]
  have e1 : evE (evF G (k + 1)) (k + 1) (ev G (evF G (k + 1)) (k + 1) (N0 + 38)) (.ix (.v 1) (.call 12 [(.v 0), (.bi .len [(.v 1)])])) [some (.ref n), some (.p (.lst items))] S = .ok (.p items[v.toNat]) S' := by
    have q1 : biR .len [.p (.lst items)] S = .ok (I items.length) S := rfl
    have q2 : ixR (.p (.lst items)) (I v) S' = .ok (.p items[v.toNat]) S' := by
      show liftP S' ((ixN items.length v).bind fun j => items[j]?) = _
      rw [hx]
      show liftP S' (items[v.toNat]?) = _
      rw [List.getElem?_eq_getElem hv]
      rfl
    have q3 : ∀ L, callR (evF G (k + 1)) (k + 1) L 12 [.ref n, I items.length] S = .ok (I v) S' := fun L => cr_ref _ _ _ _ _ _ _ _ _ r
    simp only [q_ix, q_evE, q_v, q_call, q_bi, q_es, q_es0, q_ok, List.getElem?_cons_zero, List.getElem?_cons_succ, q1, q3, q2]
  show endR _ (evCs _ _ _ [.ret _] [some (.ref n), some (.p (.lst items))] S) = _
  rw [q_cons, q_ret, q_evE, e1, q_fl, q_tht, q_end, san_pl d.1]
end
end Lw28
namespace Lw28
open PySem Mn
theorem abs1_eq (i : Int) : abs1 (.int i) = some (.int (i.natAbs : Int)) := by
  have : (if i < 0 then -i else i) = (i.natAbs : Int) := by split <;> omega
  show some (P.int (if i < 0 then -i else i)) = _
  rw [this]
section
variable (k : Nat)
theorem c20 (ns : List Int) {i : Int} (h0 : 0 ≤ i) (h1 : i < 100) (S : Sto) (pl : Pl S) : ∃ g s : Int, evF G (k + 1) 11 [.p (.scr ns), I i] S = .ok (.ref S.length) (S ++ [.lst [I g, I s, I 0]]) ∧ 0 ≤ g ∧ s.natAbs < 2 ^ 100 := by
  have m0 : mulOk 131 i = true := mul_ok (a := 8) (b := 7) (by decide) (by omega) (by decide)
  have m1 : mulOk 619 i = true := mul_ok (a := 10) (b := 7) (by decide) (by omega) (by decide)
  have sub : ∃ c : Int, evE (evF G k) k (ev G (evF G k) k (N0 + 38)) (.ite (.cmp .lt (.v 1) (.bi .len [(.v 0)])) (.bi .int [(.ix (.v 0) (.v 1))]) (.bin .add (.bin .mul (.k (.int 131)) (.v 1)) (.k (.int 37)))) [some (.p (.scr ns)), some (I i), none, none, none] S = .ok (I c) S := by
    have t1 : biR .len [.p (.scr ns)] S = .ok (I ns.length) S := rfl
    have t2 : ∀ x y S, cmpR .lt (I x) (I y) S = .ok (.p (.bl (decide (x < y)))) S := fun _ _ _ => rfl
    by_cases hi : i < ns.length
    · have hx : ixN ns.length i = some i.toNat := by
        unfold ixN
        rw [if_pos h0, if_pos hi]
      have hn : i.toNat < ns.length := by omega
      refine ⟨ns[i.toNat], ?_⟩
      have t3 : ixR (.p (.scr ns)) (I i) S = .ok (I ns[i.toNat]) S := by
        show liftP S ((ixN ns.length i).bind fun j => (ns[j]?).map .int) = _
        rw [hx]
        show liftP S ((ns[i.toNat]?).map .int) = _
        rw [List.getElem?_eq_getElem hn]
        rfl
      have t4 : biR .int [I ns[i.toNat]] S = .ok (I ns[i.toNat]) S := rfl
      simp only [q_ite, q_evT, q_tcmp, q_cmp, q_evE, q_bi, q_ix, q_es, q_es0, q_v, List.getElem?_cons_zero, List.getElem?_cons_succ, q_ok, t1, t2, hi, decide_true, q_trub, if_pos, t3, t4]
    · refine ⟨131 * i + 37, ?_⟩
      have t3 : binR .mul (I 131) (I i) S = .ok (I (131 * i)) S := by
        show liftP S (if mulOk 131 i = true then some (P.int (131 * i)) else none) = _
        rw [if_pos m0]; rfl
      have t4 : binR .add (I (131 * i)) (I 37) S = .ok (I (131 * i + 37)) S := rfl
      simp only [q_ite, q_evT, q_tcmp, q_cmp, q_evE, q_bi, q_bin, q_ix, q_es, q_es0, q_v, q_k, List.getElem?_cons_zero, List.getElem?_cons_succ, q_ok, t1, t2, hi, decide_false, q_trub, if_neg, Bool.false_ne_true, not_false_iff, t3, t4]
      rfl
  obtain ⟨c, e0⟩ := sub
  obtain ⟨M, hM, M0⟩ : ∃ M : Int, M = (10 ^ 53) ^ 6 ∧ 0 < M := ⟨_, rfl, by decide⟩
  have p1 : ∀ S, binR .pow (I 10) (I 53) S = .ok (I (10 ^ 53)) S := fun S => rfl
  have p2 : ∀ S, binR .pow (I (10 ^ 53)) (I 6) S = .ok (I M) S := fun S => by rw [hM]; rfl
  have p3 : ∀ S, binR .pow (I 10) (I 16) S = .ok (I (10 ^ 16)) S := fun S => rfl
  have t1 : biR .abs [I c] S = .ok (I c.natAbs) S := by
    show liftP S (abs1 (.int c)) = _
    rw [abs1_eq]; rfl
  have t2 : ∀ x, biR .int [I x] S = .ok (I x) S := fun _ => rfl
  generalize hw : (c.natAbs : Int) % M = w
  have w0 : 0 ≤ w := by rw [← hw]; exact Int.emod_nonneg _ (by omega)
  have t3 : binR .mod (I c.natAbs) (I M) S = .ok (I w) S := by
    show liftP S (if 0 < M then some (P.int ((c.natAbs : Int) % M)) else none) = _
    rw [if_pos M0, hw]; rfl
  generalize hu : w % 2305843009213693907 = u
  have u0 : 0 ≤ u := by rw [← hu]; exact Int.emod_nonneg _ (by decide)
  have u1 : u < 2305843009213693907 := by rw [← hu]; exact Int.emod_lt_of_pos _ (by decide)
  have t4 : binR .mod (I w) (I 2305843009213693907) S = .ok (I u) S := by
    show liftP S (if (0 : Int) < 2305843009213693907 then some (P.int (w % 2305843009213693907)) else none) = _
    rw [if_pos (by decide), hu]; rfl
  have t5 : binR .mul (I u) (I 73) S = .ok (I (u * 73)) S := by
    show liftP S (if mulOk u 73 = true then some (P.int (u * 73)) else none) = _
    rw [if_pos (mul_ok (a := 62) (b := 7) (by omega) (by decide) (by decide))]; rfl
  have t6 : binR .mul (I 619) (I i) S = .ok (I (619 * i)) S := by
    show liftP S (if mulOk 619 i = true then some (P.int (619 * i)) else none) = _
    rw [if_pos m1]; rfl
  obtain ⟨q, hq, q0, q1⟩ : ∃ q : Int, q = (if decide (c < 0) = true then (1 : Int) else 0) ∧ 0 ≤ q ∧ q ≤ 1 := ⟨_, rfl, by split <;> omega, by split <;> omega⟩
  have t7 : cmpR .lt (I c) (I 0) S = .ok (.p (.bl (decide (c < 0)))) S := rfl
  have t8 : biR .int [.p (.bl (decide (c < 0)))] S = .ok (I q) S := by rw [hq]; rfl
  have t9 : binR .mul (I 41) (I q) S = .ok (I (41 * q)) S := by
    show liftP S (if mulOk 41 q = true then some (P.int (41 * q)) else none) = _
    rw [if_pos (mul_ok (a := 6) (b := 1) (by decide) (by omega) (by decide))]; rfl
  have ta : ∀ x y, binR .add (I x) (I y) S = .ok (I (x + y)) S := fun _ _ => rfl
  have ts : binR .sub (I w) (I (10 ^ 16)) S = .ok (I (w - 10 ^ 16)) S := rfl
  obtain ⟨g, hg, g0⟩ : ∃ g : Int, g = (if w - 10 ^ 16 > 0 then w - 10 ^ 16 else 0) ∧ 0 ≤ g := ⟨_, rfl, by split <;> omega⟩
  have tm : biR .max [I 0, I (w - 10 ^ 16)] S = .ok (I g) S := by rw [hg]; rfl
  refine ⟨g, u * 73 + 619 * i + 41 * q + 17, ?_, g0, by omega⟩
  have tl : lstR true [I g, I (u * 73 + 619 * i + 41 * q + 17), I 0] S = .ok (.ref S.length) (S ++ [.lst [I g, I (u * 73 + 619 * i + 41 * q + 17), I 0]]) := rfl
  have f1 : evC (ev G (evF G k) k (N0 + 39)) (rsF G k) G.su (.set 2 (.ite (.cmp .lt (.v 1) (.bi .len [(.v 0)])) (.bi .int [(.ix (.v 0) (.v 1))]) (.bin .add (.bin .mul (.k (.int 131)) (.v 1)) (.k (.int 37))))) [some (.p (.scr ns)), some (I i), none, none, none] S = .nx [some (.p (.scr ns)), some (I i), some (I c), none, none] S := by
    rw [q_set, q_evE, e0, q_fl]
    rfl
  have f2 : evC (ev G (evF G k) k (N0 + 39)) (rsF G k) G.su (.set 3 (.bin .mod (.bi .int [(.bi .abs [(.v 2)])]) (.bin .pow (.bin .pow (.k (.int 10)) (.k (.int 53))) (.k (.int 6))))) [some (.p (.scr ns)), some (I i), some (I c), none, none] S = .nx [some (.p (.scr ns)), some (I i), some (I c), some (I w), none] S := by
    rw [q_set]
    simp only [q_evE, q_bin, q_bi, q_es, q_es0, q_v, q_k, List.getElem?_cons_zero, List.getElem?_cons_succ, q_ok, p1, p2, t1, t2, t3, q_fl]
    rfl
  have f3 : evC (ev G (evF G k) k (N0 + 39)) (rsF G k) G.su (.set 4 (.bin .add (.bin .add (.bin .add (.bin .mul (.bin .mod (.v 3) (.k (.int 2305843009213693907))) (.k (.int 73))) (.bin .mul (.k (.int 619)) (.v 1))) (.bin .mul (.k (.int 41)) (.bi .int [(.cmp .lt (.v 2) (.k (.int 0)))]))) (.k (.int 17)))) [some (.p (.scr ns)), some (I i), some (I c), some (I w), none] S = .nx [some (.p (.scr ns)), some (I i), some (I c), some (I w), some (I (u * 73 + 619 * i + 41 * q + 17))] S := by
    rw [q_set]
    simp only [q_evE, q_bin, q_bi, q_cmp, q_es, q_es0, q_v, q_k, List.getElem?_cons_zero, List.getElem?_cons_succ, q_ok, t4, t5, t6, t7, t8, t9, ta, q_fl]
    rfl
  have f4 : evC (ev G (evF G k) k (N0 + 39)) (rsF G k) G.su (.ret (.lst true [(.bi .max [(.k (.int 0)), (.bin .sub (.v 3) (.bin .pow (.k (.int 10)) (.k (.int 16))))]), (.v 4), (.k (.int 0))])) [some (.p (.scr ns)), some (I i), some (I c), some (I w), some (I (u * 73 + 619 * i + 41 * q + 17))] S = .rt (.ref S.length) (S ++ [.lst [I g, I (u * 73 + 619 * i + 41 * q + 17), I 0]]) := by
    rw [q_ret]
    simp only [q_evE, q_lst, q_bin, q_bi, q_es, q_es0, q_v, q_k, List.getElem?_cons_zero, List.getElem?_cons_succ, q_ok, p3, ts, tm, tl, q_fl]
  rw [runF k 11 [.p (.scr ns), I i] S g11 rfl rfl]
  show endR _ (evCs _ _ _ [_, _, _, _] [some (.p (.scr ns)), some (I i), none, none, none] S) = _
  rw [q_cons, f1, q_thn, q_cons, f2, q_thn, q_cons, f3, q_thn, q_cons, f4, q_tht, q_endr, san_pl (pl.app (ds := [I g, I (u * 73 + 619 * i + 41 * q + 17), I 0]) rfl)]
end
end Lw28
namespace Lw28
open PySem Mn
abbrev B (b : Bool) : D := .p (.bl b)
/-! ### comprehensions -/
theorem lc_all {s : Ev} {L : Mn.Loc} {i : Nat} {el : Mn.E} {b : P → Bool} {S : Sto} (hi : i < L.length) : ∀ {ps : List P}, (∀ p ∈ ps, s.e el (setL L i (.p p)) S = .ok (B (b p)) S) → Mn.lcP s L (.n i) none el ps S = .ok (ps.map fun p => .bl (b p)) S
  | [], _ => rfl
  | p :: ps, h => by
    rw [q_lc1]
    have ea : asg (.n i) (.p p) L = some (setL L i (.p p)) := by
      unfold asg
      rw [if_pos hi]
    rw [ea]
    dsimp only
    rw [h p List.mem_cons_self, q_ok]
    dsimp only
    rw [lc_all hi fun q hq => h q (List.mem_cons_of_mem _ hq), q_ok]
    rfl
theorem lc_fil {s : Ev} {L : Mn.Loc} {i : Nat} {c : Mn.E} {b : P → Bool} {S : Sto} (hi : i < L.length) (hk : ∀ L, s.e (.k (.int 1)) L S = .ok (.p (.int 1)) S) : ∀ {ps : List P}, (∀ p ∈ ps, s.t c (setL L i (.p p)) S = .ok (b p) S) → Mn.lcP s L (.n i) (some c) (.k (.int 1)) ps S = .ok (List.replicate (ps.filter b).length (.int 1)) S
  | [], _ => rfl
  | p :: ps, h => by
    have ih := lc_fil hi hk fun q hq => h q (List.mem_cons_of_mem _ hq)
    have ea : asg (.n i) (.p p) L = some (setL L i (.p p)) := by
      unfold asg
      rw [if_pos hi]
    show (match asg (.n i) (.p p) L with
      | none => .bad
      | some L1 => (s.t c L1 S).bind fun b S1 => if b then (s.e (.k (.int 1)) L1 S1).bind fun d S2 => (match d with
        | .p x => (Mn.lcP s L (.n i) (some c) (.k (.int 1)) ps S2).bind fun xs S3 => .ok (x :: xs) S3
        | _ => .bad) else Mn.lcP s L (.n i) (some c) (.k (.int 1)) ps S1 : Mn.R (List P)) = _
    rw [ea]
    dsimp only
    rw [h p List.mem_cons_self, q_ok, List.filter_cons]
    cases b p with
    | true =>
      rw [if_pos rfl, if_pos rfl, hk, q_ok]
      dsimp only
      rw [ih, q_ok]
      rfl
    | false =>
      rw [if_neg Bool.false_ne_true, if_neg Bool.false_ne_true]
      exact ih
theorem bools_map (b : P → Bool) : ∀ ps : List P, bools (ps.map fun p => .bl (b p)) = some (ps.map b)
  | [] => rfl
  | p :: ps => by
    show (bools (ps.map fun p => .bl (b p))).map (b p :: ·) = _
    rw [bools_map b ps]
    rfl
theorem all_map (b : P → Bool) (ps : List P) : all1 (.lst (ps.map fun p => .bl (b p))) = some (.bl (ps.all b)) := by
  show (bools (ps.map fun p => .bl (b p))).map (fun bs => P.bl (bs.all id)) = _
  rw [bools_map]
  show some (P.bl ((ps.map b).all id)) = _
  rw [List.all_map]
  rfl
theorem dats_ones : ∀ n, dats 63 (List.replicate n (.int 1)) = true
  | 0 => rfl
  | n + 1 => by
    show (dat 63 (.int 1) && dats 63 (List.replicate n (.int 1))) = true
    rw [dats_ones n]
    rfl
theorem eq_ones : ∀ n : Nat, cmpo .eq (.lst (List.replicate n (.int 1))) (.lst []) = some (Nat.beq n 0)
  | 0 => by kernel_rfl
  | n + 1 => by
    show (if dat 64 (.lst (List.replicate (n + 1) (.int 1))) && dat 64 (.lst []) then some (PyData.eqv (toP (.lst (List.replicate (n + 1) (.int 1)))) (toP (.lst []))) else none) = some false
    have e1 : dat 64 (.lst (List.replicate (n + 1) (.int 1))) = true := dats_ones (n + 1)
    rw [e1]
    show some (PyData.eqv (.list (.int 1 :: toPs (List.replicate n (.int 1)))) (.list [])) = some false
    rfl
/-! ### entries, rows, tables -/
def EN : List P := [.tup [.int 0, .int 1], .tup [.int 1, .int 1], .tup [.int (-1), .int 1], .tup [.int 2, .int 1], .tup [.int 1, .int 2], .tup [.int 2, .int 2], .int 1, .tup [.int 1, .int 0], .tup [.bl true, .int 1], .non, .tup [.int (10 ^ 40), .int 7]]
inductive AllM (p : P → Prop) : List P → Prop
  | nil : AllM p []
  | cons {x : P} {r : List P} : p x → AllM p r → AllM p (x :: r)
theorem AllM.at {p : P → Prop} : ∀ {l : List P}, AllM p l → ∀ v ∈ l, p v
  | [], _, v, h => by cases h
  | x :: r, .cons a b, v, h => by
    rcases List.mem_cons.mp h with rfl | h
    · exact a
    · exact b.at v h
def nb : P → Bool
  | .tup [.int a, .int b] => decide (1 ≤ b) && Nat.beq (Nat.gcd a.natAbs b.natAbs) 1
  | _ => false
theorem n4 (k : Nat) : ∀ v ∈ EN, evF G (k + 3) 4 [.p v] [] = .ok (B (nb v)) [] := AllM.at (.cons (by kernel_rfl) <| .cons (by kernel_rfl) <| .cons (by kernel_rfl) <| .cons (by kernel_rfl) <| .cons (by kernel_rfl) <| .cons (by kernel_rfl) <| .cons (by kernel_rfl) <| .cons (by kernel_rfl) <| .cons (by kernel_rfl) <| .cons (by kernel_rfl) <| .cons (by kernel_rfl) .nil)
theorem n15 (k : Nat) : ∀ v ∈ EN, evF G (k + 3) 15 [.p v] [] = .ok (B (nb v)) [] := AllM.at (.cons (by kernel_rfl) <| .cons (by kernel_rfl) <| .cons (by kernel_rfl) <| .cons (by kernel_rfl) <| .cons (by kernel_rfl) <| .cons (by kernel_rfl) <| .cons (by kernel_rfl) <| .cons (by kernel_rfl) <| .cons (by kernel_rfl) <| .cons (by kernel_rfl) <| .cons (by kernel_rfl) .nil)
/-- what may stand as a row -/
def RV (v : P) : Prop := v = .non ∨ ∃ es, (∀ e ∈ es, e ∈ EN) ∧ es.length < 100 ∧ (v = .tup es ∨ v = .lst es)
def rowB (w : Nat) : P → Bool
  | .tup es => decide (es.length = w) && es.all nb
  | _ => false
end Lw28
namespace Lw28
open PySem Mn
section
variable {cal : Nat → List D → Sto → Mn.R D} {fr n : Nat} {L : Mn.Loc} {S : Sto} {i j : Nat} {es : List P} {b : P → Bool}
theorem line_big : 100 < line := by decide
theorem lcAll {el : Mn.E} (hv : L[j]? = some (some (.p (.tup es)))) (hi : i < L.length) (hl : es.length < 100) (h : ∀ p ∈ es, (ev G cal fr (n + 1)).e el (setL (wipeL L [i]) i (.p p)) S = .ok (B (b p)) S) :
    (ev G cal fr (n + 3)).e (.bi .all [(.lc false [i] (.n i) .it [(.v j)] none el)]) L S = .ok (B (es.all b)) S := by
  have hi' : i < (wipeL L [i]).length := by
    show i < ((wipeL L []).set i none).length
    rw [List.length_set]
    exact hi
  have e1 : (ev G cal fr (n + 2)).e (.lc false [i] (.n i) .it [(.v j)] none el) L S = .ok (.p (.lst (es.map fun p => .bl (b p)))) S := by
    have w : walkR .it [.p (.tup es)] S = .ok es S := rfl
    rw [q_evE, q_lc, q_es, q_evE, q_v, hv, q_ok, q_es0, q_ok, q_ok, w, q_ok, lc_all hi' h, q_noex, q_ok, if_pos (by rw [List.length_map]; exact Nat.lt_trans hl line_big)]
    rfl
  rw [q_evE, q_bi, q_es, e1, q_ok, q_es0, q_ok, q_ok]
  show liftP S (all1 (.lst (es.map fun p => .bl (b p)))) = _
  rw [all_map]
  rfl
theorem beq_all : ∀ es : List P, Nat.beq (es.filter fun p => !b p).length 0 = es.all b
  | [] => rfl
  | p :: es => by
    rw [List.filter_cons, List.all_cons]
    cases h : b p with
    | true =>
      rw [if_neg (by simp), Bool.true_and]
      exact beq_all es
    | false =>
      rw [if_pos (by simp), Bool.false_and]
      rfl
theorem lcFil {c : Mn.E} (hv : L[j]? = some (some (.p (.tup es)))) (hi : i < L.length) (hl : es.length < 100) (h : ∀ p ∈ es, (ev G cal fr (n + 1)).t c (setL (wipeL L [i]) i (.p p)) S = .ok (!b p) S) :
    (ev G cal fr (n + 3)).e (.cmp .eq (.lc false [i] (.n i) .it [(.v j)] (some c) (.k (.int 1))) (.lst false [])) L S = .ok (B (es.all b)) S := by
  have hi' : i < (wipeL L [i]).length := by
    show i < ((wipeL L []).set i none).length
    rw [List.length_set]
    exact hi
  have e1 : (ev G cal fr (n + 2)).e (.lc false [i] (.n i) .it [(.v j)] (some c) (.k (.int 1))) L S = .ok (.p (.lst (List.replicate (es.filter fun p => !b p).length (.int 1)))) S := by
    have w : walkR .it [.p (.tup es)] S = .ok es S := rfl
    have hk : ∀ L, (ev G cal fr (n + 1)).e (.k (.int 1)) L S = .ok (.p (.int 1)) S := fun L => rfl
    rw [q_evE, q_lc, q_es, q_evE, q_v, hv, q_ok, q_es0, q_ok, q_ok, w, q_ok, lc_fil hi' hk h, q_noex, q_ok, if_pos]
    · rfl
    · rw [List.length_replicate]
      exact Nat.lt_of_le_of_lt (List.length_filter_le _ _) (Nat.lt_trans hl line_big)
  have e2 : (ev G cal fr (n + 2)).e (.lst false []) L S = .ok (.p (.lst [])) S := rfl
  rw [q_evE, q_cmp, e1, q_ok, e2, q_ok]
  show evB (cmpo .eq (.lst (List.replicate (es.filter fun p => !b p).length (.int 1))) (.lst [])) S = _
  rw [eq_ones, beq_all]
  rfl
end
/-- data handed to a def in a block -/
theorem cb {j f : Nat} {ps : List P} {x : P} {S : Sto} (h : evF G j f (ps.map .p) [] = .ok (.p x) []) : callB (evF G j) f (ps.map .p) S = .ok (.p x) S := by
  have a1 : ∀ ps : List P, (ps.map D.p).all pure1 = true := fun ps => by
    induction ps with
    | nil => rfl
    | cons p ps ih => exact ih
  have a2 : ∀ ps : List P, (ps.map D.p).all aloD = true := fun ps => by
    induction ps with
    | nil => rfl
    | cons p ps ih => exact ih
  unfold callB
  rw [if_pos (a1 ps)]
  unfold callD
  rw [if_pos (a2 ps), h]
theorem len_eq (a w : Nat) (S : Sto) : cmpR .eq (I a) (I w) S = .ok (B (decide (a = w))) S := by
  show evB (eqO (.int a) (.int w)) S = _
  rw [eq_int]
  show R.ok (B (decide ((a : Int) = (w : Int)))) S = _
  have : decide ((a : Int) = (w : Int)) = decide (a = w) := by
    by_cases h : a = w
    · subst h; simp
    · rw [decide_eq_false h, decide_eq_false (by omega)]
  rw [this]
/-- isinstance(v, tuple) and len(v) == w and .. -/
theorem and3 {cal : Nat → List D → Sto → Mn.R D} {fr n i j : Nat} {L : Mn.Loc} {es : List P} {b : Bool} {C : Mn.E} (m w : Nat) (hv : L[j]? = some (some (.p (.tup es)))) (hw : L[i]? = some (some (I w))) (hl : biR .len [.p (.tup es)] [] = .ok (I m) []) (hm : es.length = m)
    (hc : (ev G cal fr (n + 3)).e C L [] = .ok (B b) []) : (ev G cal fr (n + 5)).e (.and (.isi .tuple (.v j)) (.and (.cmp .eq (.bi .len [(.v j)]) (.v i)) C)) L [] = .ok (B (decide (m = w) && b)) [] := by
  have a1 : (ev G cal fr (n + 4)).e (.isi .tuple (.v j)) L [] = .ok (B true) [] := by
    rw [q_evE, q_isi, q_evE, q_v, hv]
    rfl
  have a2 : (ev G cal fr (n + 3)).e (.cmp .eq (.bi .len [(.v j)]) (.v i)) L [] = .ok (B (decide (m = w))) [] := by
    have b1 : (ev G cal fr (n + 2)).e (.bi .len [(.v j)]) L [] = .ok (I m) [] := by
      rw [q_evE, q_bi, q_es, q_evE, q_v, hv, q_ok, q_es0, q_ok, q_ok, hl]
    have b2 : (ev G cal fr (n + 2)).e (.v i) L [] = .ok (I w) [] := by
      rw [q_evE, q_v, hw]
    rw [q_evE, q_cmp, b1, q_ok, b2, q_ok, len_eq]
  have a3 : (ev G cal fr (n + 4)).e (.and (.cmp .eq (.bi .len [(.v j)]) (.v i)) C) L [] = .ok (B (decide (m = w) && b)) [] := by
    rw [q_evE, q_and, a2, q_ok, q_trub, q_ok]
    cases decide (m = w) with
    | true => rw [if_pos rfl, hc, Bool.true_and]
    | false => rw [if_neg Bool.false_ne_true, Bool.false_and]
  rw [q_evE, q_and, a1, q_ok, q_trub, q_ok, if_pos rfl, a3]
theorem r5 (k w : Nat) {v : P} (h : RV v) : evF G (k + 4) 5 [I w, .p v] [] = .ok (B (rowB w v)) [] := by
  rcases h with rfl | ⟨es, he, hl, rfl | rfl⟩
  · kernel_rfl
  · rw [runF (k + 3) 5 [I w, .p (.tup es)] [] g5 rfl rfl]
    show endR _ (evCs (ev G (evF G (k + 3)) (k + 3) (N0 + 39)) _ _ [.ret (.and (.isi .tuple (.v 1)) (.and (.cmp .eq (.bi .len [(.v 1)]) (.v 0)) (.bi .all [(.lc false [2] (.n 2) .it [(.v 1)] none (.callB 4 [(.v 2)]))])))] [some (I w), some (.p (.tup es)), none] []) = _
    have t1 : isiR .tuple (.p (.tup es)) [] = .ok (B true) [] := rfl
    have t2 : biR .len [.p (.tup es)] [] = .ok (I es.length) [] := rfl
    have t3 := len_eq es.length w []
    have t4 : (ev G (evF G (k + 3)) (k + 3) (N0 + 34 + 3)).e (.bi .all [(.lc false [2] (.n 2) .it [(.v 1)] none (.callB 4 [(.v 2)]))]) [some (I w), some (.p (.tup es)), none] [] = .ok (B (es.all nb)) [] := by
      refine lcAll (j := 1) rfl (by show 2 < 3; decide) hl fun p hp => ?_
      have q := cb (ps := [p]) (S := []) (n4 k p (he p hp))
      have e0 : setL (wipeL [some (I w), some (.p (.tup es)), none] [2]) 2 (.p p) = [some (I w), some (.p (.tup es)), some (.p p)] := rfl
      rw [e0, q_evE, q_callB, q_es]
      exact q
    rw [q_cons, q_ret, show N0 + 39 = N0 + 34 + 5 from rfl, and3 (es.length) w rfl rfl t2 rfl t4]
    show R.ok (B (decide (es.length = w) && es.all nb)) [] = _
    rfl
  · kernel_rfl
/-- a test that a call in a block answers no -/
theorem tnot {f fr n : Nat} {cal : Nat → List D → Sto → Mn.R D} {L : Mn.Loc} {S : Sto} {es : List Mn.E} {ds : List D} {b : Bool} (h1 : evs (ev G cal fr n) es L S = .ok ds S) (h2 : callB cal f ds S = .ok (B b) S) : (ev G cal fr (n + 2)).t (.not (.callB f es)) L S = .ok (!b) S := by
  rw [q_evT, q_tnot, q_evT]
  show ((evE cal fr (ev G cal fr n) (.callB f es) L S).bind fun x S1 => truR x S1).bind _ = _
  rw [q_callB, h1, q_ok, h2, q_ok, q_trub, q_ok]
theorem r16 (k w : Nat) {v : P} (h : RV v) : evF G (k + 4) 16 [I w, .p v] [] = .ok (B (rowB w v)) [] := by
  rcases h with rfl | ⟨es, he, hl, rfl | rfl⟩
  · kernel_rfl
  · rw [runF (k + 3) 16 [I w, .p (.tup es)] [] g16 rfl rfl]
    show endR _ (evCs (ev G (evF G (k + 3)) (k + 3) (N0 + 39)) _ _ [.ret (.and (.isi .tuple (.v 1)) (.and (.cmp .eq (.bi .len [(.v 1)]) (.v 0)) (.cmp .eq (.lc false [2] (.n 2) .it [(.v 1)] (some (.not (.callB 15 [(.v 2)]))) (.k (.int 1))) (.lst false []))))] [some (I w), some (.p (.tup es)), none] []) = _
    have t2 : biR .len [.p (.tup es)] [] = .ok (I es.length) [] := rfl
    have t4 : (ev G (evF G (k + 3)) (k + 3) (N0 + 34 + 3)).e (.cmp .eq (.lc false [2] (.n 2) .it [(.v 1)] (some (.not (.callB 15 [(.v 2)]))) (.k (.int 1))) (.lst false [])) [some (I w), some (.p (.tup es)), none] [] = .ok (B (es.all nb)) [] := by
      refine lcFil (j := 1) rfl (by show 2 < 3; decide) hl fun p hp => ?_
      have q := cb (ps := [p]) (S := []) (n15 k p (he p hp))
      have e0 : setL (wipeL [some (I w), some (.p (.tup es)), none] [2]) 2 (.p p) = [some (I w), some (.p (.tup es)), some (.p p)] := rfl
      rw [e0, show N0 + 34 + 1 = N0 + 33 + 2 from rfl]
      exact tnot (ds := [.p p]) rfl q
    rw [q_cons, q_ret, show N0 + 39 = N0 + 34 + 5 from rfl, and3 (es.length) w rfl rfl t2 rfl t4]
    show R.ok (B (decide (es.length = w) && es.all nb)) [] = _
    rfl
  · kernel_rfl
/-! ### tables -/
def TV (v : P) : Prop := (v = .non ∨ v = .str "table" ∨ v = .int 0) ∨ ∃ rs, (∀ r ∈ rs, RV r) ∧ rs.length < 100 ∧ (v = .tup rs ∨ v = .lst rs)
def tabB (h w : Nat) : P → Bool
  | .tup rs => decide (rs.length = h) && rs.all (rowB w)
  | _ => false
theorem t6 (k h w : Nat) {v : P} (hv : TV v) : evF G (k + 5) 6 [I h, I w, .p v] [] = .ok (B (tabB h w v)) [] := by
  rcases hv with (rfl | rfl | rfl) | ⟨rs, he, hl, rfl | rfl⟩
  · kernel_rfl
  · kernel_rfl
  · kernel_rfl
  · rw [runF (k + 4) 6 [I h, I w, .p (.tup rs)] [] g6 rfl rfl]
    show endR _ (evCs (ev G (evF G (k + 4)) (k + 4) (N0 + 39)) _ _ [.ret (.and (.isi .tuple (.v 2)) (.and (.cmp .eq (.bi .len [(.v 2)]) (.v 0)) (.bi .all [(.lc false [3] (.n 3) .it [(.v 2)] none (.callB 5 [(.v 1), (.v 3)]))])))] [some (I h), some (I w), some (.p (.tup rs)), none] []) = _
    have t2 : biR .len [.p (.tup rs)] [] = .ok (I rs.length) [] := rfl
    have t4 : (ev G (evF G (k + 4)) (k + 4) (N0 + 34 + 3)).e (.bi .all [(.lc false [3] (.n 3) .it [(.v 2)] none (.callB 5 [(.v 1), (.v 3)]))]) [some (I h), some (I w), some (.p (.tup rs)), none] [] = .ok (B (rs.all (rowB w))) [] := by
      refine lcAll (j := 2) rfl (by show 3 < 4; decide) hl fun p hp => ?_
      have q := cb (ps := [.int w, p]) (S := []) (r5 k w (he p hp))
      have e0 : setL (wipeL [some (I h), some (I w), some (.p (.tup rs)), none] [3]) 3 (.p p) = [some (I h), some (I w), some (.p (.tup rs)), some (.p p)] := rfl
      rw [e0, q_evE, q_callB, q_es]
      exact q
    rw [q_cons, q_ret, show N0 + 39 = N0 + 34 + 5 from rfl, and3 (i := 0) (rs.length) h rfl rfl t2 rfl t4]
    show R.ok (B (decide (rs.length = h) && rs.all (rowB w))) [] = _
    rfl
  · kernel_rfl
theorem t17 (k h w : Nat) {v : P} (hv : TV v) : evF G (k + 5) 17 [I h, I w, .p v] [] = .ok (B (tabB h w v)) [] := by
  rcases hv with (rfl | rfl | rfl) | ⟨rs, he, hl, rfl | rfl⟩
  · kernel_rfl
  · kernel_rfl
  · kernel_rfl
  · rw [runF (k + 4) 17 [I h, I w, .p (.tup rs)] [] g17 rfl rfl]
    show endR _ (evCs (ev G (evF G (k + 4)) (k + 4) (N0 + 39)) _ _ [(.ite (.or (.not (.isi .tuple (.v 2))) (.cmp .ne (.bi .len [(.v 2)]) (.v 0))) [(.ret (.k (.bl false)))] []), .ret (.cmp .eq (.lc false [3] (.n 3) .it [(.v 2)] (some (.not (.callB 16 [(.v 1), (.v 3)]))) (.k (.int 1))) (.lst false []))] [some (I h), some (I w), some (.p (.tup rs)), none] []) = _
    have t4 : (ev G (evF G (k + 4)) (k + 4) (N0 + 36 + 3)).e (.cmp .eq (.lc false [3] (.n 3) .it [(.v 2)] (some (.not (.callB 16 [(.v 1), (.v 3)]))) (.k (.int 1))) (.lst false [])) [some (I h), some (I w), some (.p (.tup rs)), none] [] = .ok (B (rs.all (rowB w))) [] := by
      refine lcFil (j := 2) rfl (by show 3 < 4; decide) hl fun p hp => ?_
      have q := cb (ps := [.int w, p]) (S := []) (r16 k w (he p hp))
      have e0 : setL (wipeL [some (I h), some (I w), some (.p (.tup rs)), none] [3]) 3 (.p p) = [some (I h), some (I w), some (.p (.tup rs)), some (.p p)] := rfl
      rw [e0, show N0 + 36 + 1 = N0 + 35 + 2 from rfl]
      exact tnot (ds := [I w, .p p]) rfl q
    have t5 : (ev G (evF G (k + 4)) (k + 4) (N0 + 39)).t (.or (.not (.isi .tuple (.v 2))) (.cmp .ne (.bi .len [(.v 2)]) (.v 0))) [some (I h), some (I w), some (.p (.tup rs)), none] [] = .ok (!decide (rs.length = h)) [] := by
      have c1 : (ev G (evF G (k + 4)) (k + 4) (N0 + 38)).t (.not (.isi .tuple (.v 2))) [some (I h), some (I w), some (.p (.tup rs)), none] [] = .ok false [] := rfl
      have c2 : (ev G (evF G (k + 4)) (k + 4) (N0 + 38)).t (.cmp .ne (.bi .len [(.v 2)]) (.v 0)) [some (I h), some (I w), some (.p (.tup rs)), none] [] = .ok (!decide (rs.length = h)) [] := by
        rw [show N0 + 38 = N0 + 37 + 1 from rfl, q_evT, q_tcmp]
        show (cmpR .ne (I rs.length) (I h) []).bind _ = _
        have : cmpR .ne (I rs.length) (I h) [] = .ok (B (!decide (rs.length = h))) [] := by
          show evB ((eqO (.int rs.length) (.int h)).map not) [] = _
          rw [eq_int]
          have e : decide ((rs.length : Int) = (h : Int)) = decide (rs.length = h) := by
            by_cases q : rs.length = h
            · rw [q]; simp
            · rw [decide_eq_false q, decide_eq_false (by omega)]
          rw [e]
          rfl
        rw [this, q_ok, q_trub]
      rw [show N0 + 39 = N0 + 38 + 1 from rfl, q_evT, q_tor, c1, q_ok, if_neg Bool.false_ne_true, c2]
    rw [q_cons, q_cite, t5, q_fl]
    show endR _ (Fl.then (if (!decide (rs.length = h)) = true then _ else _) _) = .ok (B (decide (rs.length = h) && rs.all (rowB w))) []
    cases decide (rs.length = h) with
    | true =>
      rw [if_neg (by decide), show (ev G (evF G (k + 4)) (k + 4) (N0 + 39)).c [] [some (I h), some (I w), some (.p (.tup rs)), none] [] = .nx [some (I h), some (I w), some (.p (.tup rs)), none] [] from rfl, q_thn, q_cons, q_ret, show N0 + 39 = N0 + 36 + 3 from rfl, t4]
      rfl
    | false =>
      rw [if_pos (by decide)]
      rfl
  · kernel_rfl
end Lw28
namespace Lw28
open PySem Mn
def VP : List P := [.tup [.str "p0"], .tup [.str "p0", .str "zz"], .tup [.str "abcdefghijkl"], .tup [.str "n0"], .tup [.str "n0", .str "n1"], .tup [.str "n0", .str "n1", .str "n2"], .tup [.str "n0", .str "n1", .str "n2", .str "n3"], .tup [.str "n0", .str "n1", .str "n2", .str "n3", .str "n4"], .tup [.str "p0", .str "p1"], .tup [.str "p0", .str "p1", .str "zz"], .tup [.str "p1"], .tup [.str "p0", .str "p1", .str "p2"], .tup [.str "p0", .str "p1", .str "p2", .str "zz"], .tup [.str "p1", .str "p2"], .tup [.str "p0", .str "p1", .str "p2", .str "p3"], .tup [.str "p0", .str "p1", .str "p2", .str "p3", .str "zz"], .tup [.str "p1", .str "p2", .str "p3"], .tup [.str "p0", .str "p1", .str "p2", .str "p3", .str "p4"], .tup [.str "p1", .str "p2", .str "p3", .str "p4"]]
def IP : List P := [.lst [.str "p0"], .tup [.str "p0", .str "p0"], .non, .tup [.str "A"], .tup [.int 1], .tup [], .tup [.str "a b"], .tup [.str "abcdefghijklm"], .str "ab", .tup [.str "p0", .str "a"], .tup [.str "b", .str "a"], .tup [.str "n0", .str "n1", .str "n2", .str "n3", .str "n4", .str "n5"], .tup [.str "n0", .str "n1", .str "n2", .str "n3", .str "n4", .str "n5", .str "n6"], .tup [.str "n0", .str "n1", .str "n2", .str "n3", .str "n4", .str "n5", .str "n6", .str "n7"], .tup [.str "p1", .str "p0"], .lst [.str "p0", .str "p1"], .tup [.str "p0", .str "p1", .str "p0"], .tup [.str "p0", .str "p1", .str "a"], .tup [.str "p2", .str "p1", .str "p0"], .lst [.str "p0", .str "p1", .str "p2"], .tup [.str "p0", .str "p1", .str "p2", .str "p0"], .tup [.str "p0", .str "p1", .str "p2", .str "a"], .tup [.str "p3", .str "p2", .str "p1", .str "p0"], .lst [.str "p0", .str "p1", .str "p2", .str "p3"], .tup [.str "p0", .str "p1", .str "p2", .str "p3", .str "p0"], .tup [.str "p0", .str "p1", .str "p2", .str "p3", .str "a"], .tup [.str "p0", .str "p1", .str "p2", .str "p3", .str "p4", .str "zz"], .tup [.str "p4", .str "p3", .str "p2", .str "p1", .str "p0"], .lst [.str "p0", .str "p1", .str "p2", .str "p3", .str "p4"], .tup [.str "p0", .str "p1", .str "p2", .str "p3", .str "p4", .str "p0"], .tup [.str "p0", .str "p1", .str "p2", .str "p3", .str "p4", .str "a"]]
def VH : List P := [.tup [], .tup [.str "zz"], .tup [.str "abcdefghijkl"], .tup [.str "a"], .tup [.str "n0"], .tup [.str "n0", .str "n1"], .tup [.str "n0", .str "n1", .str "n2"], .tup [.str "n0", .str "n1", .str "n2", .str "n3"], .tup [.str "h0"], .tup [.str "h0", .str "zz"], .tup [.str "h0", .str "h1"], .tup [.str "h0", .str "h1", .str "zz"], .tup [.str "h1"], .tup [.str "h0", .str "h1", .str "h2"], .tup [.str "h0", .str "h1", .str "h2", .str "zz"], .tup [.str "h1", .str "h2"], .tup [.str "h0", .str "h1", .str "h2", .str "h3"], .tup [.str "h1", .str "h2", .str "h3"], .tup [.str "p0", .str "q"], .tup [.str "p0", .str "p1", .str "q"]]
def IH : List P := [.lst [], .non, .tup [.str "A"], .tup [.int 1], .tup [.str "a b"], .tup [.str "abcdefghijklm"], .str "ab", .tup [.str "b", .str "a"], .tup [.str "n0", .str "n1", .str "n2", .str "n3", .str "n4"], .tup [.str "n0", .str "n1", .str "n2", .str "n3", .str "n4", .str "n5"], .tup [.str "n0", .str "n1", .str "n2", .str "n3", .str "n4", .str "n5", .str "n6"], .tup [.str "n0", .str "n1", .str "n2", .str "n3", .str "n4", .str "n5", .str "n6", .str "n7"], .lst [.str "h0"], .tup [.str "h0", .str "h0"], .tup [.str "h0", .str "a"], .tup [.str "h1", .str "h0"], .lst [.str "h0", .str "h1"], .tup [.str "h0", .str "h1", .str "h0"], .tup [.str "h0", .str "h1", .str "a"], .tup [.str "h2", .str "h1", .str "h0"], .lst [.str "h0", .str "h1", .str "h2"], .tup [.str "h0", .str "h1", .str "h2", .str "h0"], .tup [.str "h0", .str "h1", .str "h2", .str "a"], .tup [.str "h0", .str "h1", .str "h2", .str "h3", .str "zz"], .tup [.str "h3", .str "h2", .str "h1", .str "h0"], .lst [.str "h0", .str "h1", .str "h2", .str "h3"], .tup [.str "h0", .str "h1", .str "h2", .str "h3", .str "h0"], .tup [.str "h0", .str "h1", .str "h2", .str "h3", .str "a"]]
theorem vp8 (k : Nat) : ∀ v ∈ VP, evF G (k + 2) 8 [.p v, I 1, I 5] [] = .ok (B true) [] := AllM.at (.cons (by kernel_rfl) <| .cons (by kernel_rfl) <| .cons (by kernel_rfl) <| .cons (by kernel_rfl) <| .cons (by kernel_rfl) <| .cons (by kernel_rfl) <| .cons (by kernel_rfl) <| .cons (by kernel_rfl) <| .cons (by kernel_rfl) <| .cons (by kernel_rfl) <| .cons (by kernel_rfl) <| .cons (by kernel_rfl) <| .cons (by kernel_rfl) <| .cons (by kernel_rfl) <| .cons (by kernel_rfl) <| .cons (by kernel_rfl) <| .cons (by kernel_rfl) <| .cons (by kernel_rfl) <| .cons (by kernel_rfl) <| .nil)
theorem ip8 (k : Nat) : ∀ v ∈ IP, evF G (k + 2) 8 [.p v, I 1, I 5] [] = .ok (B false) [] := AllM.at (.cons (by kernel_rfl) <| .cons (by kernel_rfl) <| .cons (by kernel_rfl) <| .cons (by kernel_rfl) <| .cons (by kernel_rfl) <| .cons (by kernel_rfl) <| .cons (by kernel_rfl) <| .cons (by kernel_rfl) <| .cons (by kernel_rfl) <| .cons (by kernel_rfl) <| .cons (by kernel_rfl) <| .cons (by kernel_rfl) <| .cons (by kernel_rfl) <| .cons (by kernel_rfl) <| .cons (by kernel_rfl) <| .cons (by kernel_rfl) <| .cons (by kernel_rfl) <| .cons (by kernel_rfl) <| .cons (by kernel_rfl) <| .cons (by kernel_rfl) <| .cons (by kernel_rfl) <| .cons (by kernel_rfl) <| .cons (by kernel_rfl) <| .cons (by kernel_rfl) <| .cons (by kernel_rfl) <| .cons (by kernel_rfl) <| .cons (by kernel_rfl) <| .cons (by kernel_rfl) <| .cons (by kernel_rfl) <| .cons (by kernel_rfl) <| .cons (by kernel_rfl) <| .nil)
theorem vh8 (k : Nat) : ∀ v ∈ VH, evF G (k + 2) 8 [.p v, I 0, I 4] [] = .ok (B true) [] := AllM.at (.cons (by kernel_rfl) <| .cons (by kernel_rfl) <| .cons (by kernel_rfl) <| .cons (by kernel_rfl) <| .cons (by kernel_rfl) <| .cons (by kernel_rfl) <| .cons (by kernel_rfl) <| .cons (by kernel_rfl) <| .cons (by kernel_rfl) <| .cons (by kernel_rfl) <| .cons (by kernel_rfl) <| .cons (by kernel_rfl) <| .cons (by kernel_rfl) <| .cons (by kernel_rfl) <| .cons (by kernel_rfl) <| .cons (by kernel_rfl) <| .cons (by kernel_rfl) <| .cons (by kernel_rfl) <| .cons (by kernel_rfl) <| .cons (by kernel_rfl) <| .nil)
theorem ih8 (k : Nat) : ∀ v ∈ IH, evF G (k + 2) 8 [.p v, I 0, I 4] [] = .ok (B false) [] := AllM.at (.cons (by kernel_rfl) <| .cons (by kernel_rfl) <| .cons (by kernel_rfl) <| .cons (by kernel_rfl) <| .cons (by kernel_rfl) <| .cons (by kernel_rfl) <| .cons (by kernel_rfl) <| .cons (by kernel_rfl) <| .cons (by kernel_rfl) <| .cons (by kernel_rfl) <| .cons (by kernel_rfl) <| .cons (by kernel_rfl) <| .cons (by kernel_rfl) <| .cons (by kernel_rfl) <| .cons (by kernel_rfl) <| .cons (by kernel_rfl) <| .cons (by kernel_rfl) <| .cons (by kernel_rfl) <| .cons (by kernel_rfl) <| .cons (by kernel_rfl) <| .cons (by kernel_rfl) <| .cons (by kernel_rfl) <| .cons (by kernel_rfl) <| .cons (by kernel_rfl) <| .cons (by kernel_rfl) <| .cons (by kernel_rfl) <| .cons (by kernel_rfl) <| .cons (by kernel_rfl) <| .nil)
theorem vp20 (k : Nat) : ∀ v ∈ VP, evF G (k + 2) 20 [.p v, I 1, I 5] [] = .ok (B true) [] := AllM.at (.cons (by kernel_rfl) <| .cons (by kernel_rfl) <| .cons (by kernel_rfl) <| .cons (by kernel_rfl) <| .cons (by kernel_rfl) <| .cons (by kernel_rfl) <| .cons (by kernel_rfl) <| .cons (by kernel_rfl) <| .cons (by kernel_rfl) <| .cons (by kernel_rfl) <| .cons (by kernel_rfl) <| .cons (by kernel_rfl) <| .cons (by kernel_rfl) <| .cons (by kernel_rfl) <| .cons (by kernel_rfl) <| .cons (by kernel_rfl) <| .cons (by kernel_rfl) <| .cons (by kernel_rfl) <| .cons (by kernel_rfl) <| .nil)
theorem ip20 (k : Nat) : ∀ v ∈ IP, evF G (k + 2) 20 [.p v, I 1, I 5] [] = .ok (B false) [] := AllM.at (.cons (by kernel_rfl) <| .cons (by kernel_rfl) <| .cons (by kernel_rfl) <| .cons (by kernel_rfl) <| .cons (by kernel_rfl) <| .cons (by kernel_rfl) <| .cons (by kernel_rfl) <| .cons (by kernel_rfl) <| .cons (by kernel_rfl) <| .cons (by kernel_rfl) <| .cons (by kernel_rfl) <| .cons (by kernel_rfl) <| .cons (by kernel_rfl) <| .cons (by kernel_rfl) <| .cons (by kernel_rfl) <| .cons (by kernel_rfl) <| .cons (by kernel_rfl) <| .cons (by kernel_rfl) <| .cons (by kernel_rfl) <| .cons (by kernel_rfl) <| .cons (by kernel_rfl) <| .cons (by kernel_rfl) <| .cons (by kernel_rfl) <| .cons (by kernel_rfl) <| .cons (by kernel_rfl) <| .cons (by kernel_rfl) <| .cons (by kernel_rfl) <| .cons (by kernel_rfl) <| .cons (by kernel_rfl) <| .cons (by kernel_rfl) <| .cons (by kernel_rfl) <| .nil)
theorem vh20 (k : Nat) : ∀ v ∈ VH, evF G (k + 2) 20 [.p v, I 0, I 4] [] = .ok (B true) [] := AllM.at (.cons (by kernel_rfl) <| .cons (by kernel_rfl) <| .cons (by kernel_rfl) <| .cons (by kernel_rfl) <| .cons (by kernel_rfl) <| .cons (by kernel_rfl) <| .cons (by kernel_rfl) <| .cons (by kernel_rfl) <| .cons (by kernel_rfl) <| .cons (by kernel_rfl) <| .cons (by kernel_rfl) <| .cons (by kernel_rfl) <| .cons (by kernel_rfl) <| .cons (by kernel_rfl) <| .cons (by kernel_rfl) <| .cons (by kernel_rfl) <| .cons (by kernel_rfl) <| .cons (by kernel_rfl) <| .cons (by kernel_rfl) <| .cons (by kernel_rfl) <| .nil)
theorem ih20 (k : Nat) : ∀ v ∈ IH, evF G (k + 2) 20 [.p v, I 0, I 4] [] = .ok (B false) [] := AllM.at (.cons (by kernel_rfl) <| .cons (by kernel_rfl) <| .cons (by kernel_rfl) <| .cons (by kernel_rfl) <| .cons (by kernel_rfl) <| .cons (by kernel_rfl) <| .cons (by kernel_rfl) <| .cons (by kernel_rfl) <| .cons (by kernel_rfl) <| .cons (by kernel_rfl) <| .cons (by kernel_rfl) <| .cons (by kernel_rfl) <| .cons (by kernel_rfl) <| .cons (by kernel_rfl) <| .cons (by kernel_rfl) <| .cons (by kernel_rfl) <| .cons (by kernel_rfl) <| .cons (by kernel_rfl) <| .cons (by kernel_rfl) <| .cons (by kernel_rfl) <| .cons (by kernel_rfl) <| .cons (by kernel_rfl) <| .cons (by kernel_rfl) <| .cons (by kernel_rfl) <| .cons (by kernel_rfl) <| .cons (by kernel_rfl) <| .cons (by kernel_rfl) <| .cons (by kernel_rfl) <| .nil)
def sm : P → P → Bool
  | .str a, .str b => decide (a = b)
  | _, _ => false
def itemsP : P → List P
  | .tup xs => xs
  | _ => []
/-- the first of the places that is a hand too -/
def bo (p h : P) : Option P := (itemsP p).find? fun x => (itemsP h).any (sm x)
def twi (x : P) : P := .tup [.str "twice", x]
def boP (p h : P) : P := match bo p h with
  | some x => twi x
  | none => .non
def st9 (i : Nat) : C := g9.b.getD i .bad
def st21 (i : Nat) : C := g21.b.getD i .bad
abbrev V (x : P) : Option D := some (.p x)
def out21 (p h t : P) : Fl := match bo p h with
  | some x => .rt (.p (twi x)) []
  | none => .nx [V p, V h, V t, V (.lst []), none] []
theorem pair9 (k : Nat) : ∀ p ∈ VP, ∀ h ∈ VH, evCs (ev G (evF G k) k (N0 + 39)) (rsF G k) G.su [st9 2, st9 3] [V p, V h, none, none] [] = .rt (.p (boP p h)) [] := AllM.at (.cons (AllM.at (.cons (by kernel_rfl) <| .cons (by kernel_rfl) <| .cons (by kernel_rfl) <| .cons (by kernel_rfl) <| .cons (by kernel_rfl) <| .cons (by kernel_rfl) <| .cons (by kernel_rfl) <| .cons (by kernel_rfl) <| .cons (by kernel_rfl) <| .cons (by kernel_rfl) <| .cons (by kernel_rfl) <| .cons (by kernel_rfl) <| .cons (by kernel_rfl) <| .cons (by kernel_rfl) <| .cons (by kernel_rfl) <| .cons (by kernel_rfl) <| .cons (by kernel_rfl) <| .cons (by kernel_rfl) <| .cons (by kernel_rfl) <| .cons (by kernel_rfl) <| .nil)) <| .cons (AllM.at (.cons (by kernel_rfl) <| .cons (by kernel_rfl) <| .cons (by kernel_rfl) <| .cons (by kernel_rfl) <| .cons (by kernel_rfl) <| .cons (by kernel_rfl) <| .cons (by kernel_rfl) <| .cons (by kernel_rfl) <| .cons (by kernel_rfl) <| .cons (by kernel_rfl) <| .cons (by kernel_rfl) <| .cons (by kernel_rfl) <| .cons (by kernel_rfl) <| .cons (by kernel_rfl) <| .cons (by kernel_rfl) <| .cons (by kernel_rfl) <| .cons (by kernel_rfl) <| .cons (by kernel_rfl) <| .cons (by kernel_rfl) <| .cons (by kernel_rfl) <| .nil)) <| .cons (AllM.at (.cons (by kernel_rfl) <| .cons (by kernel_rfl) <| .cons (by kernel_rfl) <| .cons (by kernel_rfl) <| .cons (by kernel_rfl) <| .cons (by kernel_rfl) <| .cons (by kernel_rfl) <| .cons (by kernel_rfl) <| .cons (by kernel_rfl) <| .cons (by kernel_rfl) <| .cons (by kernel_rfl) <| .cons (by kernel_rfl) <| .cons (by kernel_rfl) <| .cons (by kernel_rfl) <| .cons (by kernel_rfl) <| .cons (by kernel_rfl) <| .cons (by kernel_rfl) <| .cons (by kernel_rfl) <| .cons (by kernel_rfl) <| .cons (by kernel_rfl) <| .nil)) <| .cons (AllM.at (.cons (by kernel_rfl) <| .cons (by kernel_rfl) <| .cons (by kernel_rfl) <| .cons (by kernel_rfl) <| .cons (by kernel_rfl) <| .cons (by kernel_rfl) <| .cons (by kernel_rfl) <| .cons (by kernel_rfl) <| .cons (by kernel_rfl) <| .cons (by kernel_rfl) <| .cons (by kernel_rfl) <| .cons (by kernel_rfl) <| .cons (by kernel_rfl) <| .cons (by kernel_rfl) <| .cons (by kernel_rfl) <| .cons (by kernel_rfl) <| .cons (by kernel_rfl) <| .cons (by kernel_rfl) <| .cons (by kernel_rfl) <| .cons (by kernel_rfl) <| .nil)) <| .cons (AllM.at (.cons (by kernel_rfl) <| .cons (by kernel_rfl) <| .cons (by kernel_rfl) <| .cons (by kernel_rfl) <| .cons (by kernel_rfl) <| .cons (by kernel_rfl) <| .cons (by kernel_rfl) <| .cons (by kernel_rfl) <| .cons (by kernel_rfl) <| .cons (by kernel_rfl) <| .cons (by kernel_rfl) <| .cons (by kernel_rfl) <| .cons (by kernel_rfl) <| .cons (by kernel_rfl) <| .cons (by kernel_rfl) <| .cons (by kernel_rfl) <| .cons (by kernel_rfl) <| .cons (by kernel_rfl) <| .cons (by kernel_rfl) <| .cons (by kernel_rfl) <| .nil)) <| .cons (AllM.at (.cons (by kernel_rfl) <| .cons (by kernel_rfl) <| .cons (by kernel_rfl) <| .cons (by kernel_rfl) <| .cons (by kernel_rfl) <| .cons (by kernel_rfl) <| .cons (by kernel_rfl) <| .cons (by kernel_rfl) <| .cons (by kernel_rfl) <| .cons (by kernel_rfl) <| .cons (by kernel_rfl) <| .cons (by kernel_rfl) <| .cons (by kernel_rfl) <| .cons (by kernel_rfl) <| .cons (by kernel_rfl) <| .cons (by kernel_rfl) <| .cons (by kernel_rfl) <| .cons (by kernel_rfl) <| .cons (by kernel_rfl) <| .cons (by kernel_rfl) <| .nil)) <| .cons (AllM.at (.cons (by kernel_rfl) <| .cons (by kernel_rfl) <| .cons (by kernel_rfl) <| .cons (by kernel_rfl) <| .cons (by kernel_rfl) <| .cons (by kernel_rfl) <| .cons (by kernel_rfl) <| .cons (by kernel_rfl) <| .cons (by kernel_rfl) <| .cons (by kernel_rfl) <| .cons (by kernel_rfl) <| .cons (by kernel_rfl) <| .cons (by kernel_rfl) <| .cons (by kernel_rfl) <| .cons (by kernel_rfl) <| .cons (by kernel_rfl) <| .cons (by kernel_rfl) <| .cons (by kernel_rfl) <| .cons (by kernel_rfl) <| .cons (by kernel_rfl) <| .nil)) <| .cons (AllM.at (.cons (by kernel_rfl) <| .cons (by kernel_rfl) <| .cons (by kernel_rfl) <| .cons (by kernel_rfl) <| .cons (by kernel_rfl) <| .cons (by kernel_rfl) <| .cons (by kernel_rfl) <| .cons (by kernel_rfl) <| .cons (by kernel_rfl) <| .cons (by kernel_rfl) <| .cons (by kernel_rfl) <| .cons (by kernel_rfl) <| .cons (by kernel_rfl) <| .cons (by kernel_rfl) <| .cons (by kernel_rfl) <| .cons (by kernel_rfl) <| .cons (by kernel_rfl) <| .cons (by kernel_rfl) <| .cons (by kernel_rfl) <| .cons (by kernel_rfl) <| .nil)) <| .cons (AllM.at (.cons (by kernel_rfl) <| .cons (by kernel_rfl) <| .cons (by kernel_rfl) <| .cons (by kernel_rfl) <| .cons (by kernel_rfl) <| .cons (by kernel_rfl) <| .cons (by kernel_rfl) <| .cons (by kernel_rfl) <| .cons (by kernel_rfl) <| .cons (by kernel_rfl) <| .cons (by kernel_rfl) <| .cons (by kernel_rfl) <| .cons (by kernel_rfl) <| .cons (by kernel_rfl) <| .cons (by kernel_rfl) <| .cons (by kernel_rfl) <| .cons (by kernel_rfl) <| .cons (by kernel_rfl) <| .cons (by kernel_rfl) <| .cons (by kernel_rfl) <| .nil)) <| .cons (AllM.at (.cons (by kernel_rfl) <| .cons (by kernel_rfl) <| .cons (by kernel_rfl) <| .cons (by kernel_rfl) <| .cons (by kernel_rfl) <| .cons (by kernel_rfl) <| .cons (by kernel_rfl) <| .cons (by kernel_rfl) <| .cons (by kernel_rfl) <| .cons (by kernel_rfl) <| .cons (by kernel_rfl) <| .cons (by kernel_rfl) <| .cons (by kernel_rfl) <| .cons (by kernel_rfl) <| .cons (by kernel_rfl) <| .cons (by kernel_rfl) <| .cons (by kernel_rfl) <| .cons (by kernel_rfl) <| .cons (by kernel_rfl) <| .cons (by kernel_rfl) <| .nil)) <| .cons (AllM.at (.cons (by kernel_rfl) <| .cons (by kernel_rfl) <| .cons (by kernel_rfl) <| .cons (by kernel_rfl) <| .cons (by kernel_rfl) <| .cons (by kernel_rfl) <| .cons (by kernel_rfl) <| .cons (by kernel_rfl) <| .cons (by kernel_rfl) <| .cons (by kernel_rfl) <| .cons (by kernel_rfl) <| .cons (by kernel_rfl) <| .cons (by kernel_rfl) <| .cons (by kernel_rfl) <| .cons (by kernel_rfl) <| .cons (by kernel_rfl) <| .cons (by kernel_rfl) <| .cons (by kernel_rfl) <| .cons (by kernel_rfl) <| .cons (by kernel_rfl) <| .nil)) <| .cons (AllM.at (.cons (by kernel_rfl) <| .cons (by kernel_rfl) <| .cons (by kernel_rfl) <| .cons (by kernel_rfl) <| .cons (by kernel_rfl) <| .cons (by kernel_rfl) <| .cons (by kernel_rfl) <| .cons (by kernel_rfl) <| .cons (by kernel_rfl) <| .cons (by kernel_rfl) <| .cons (by kernel_rfl) <| .cons (by kernel_rfl) <| .cons (by kernel_rfl) <| .cons (by kernel_rfl) <| .cons (by kernel_rfl) <| .cons (by kernel_rfl) <| .cons (by kernel_rfl) <| .cons (by kernel_rfl) <| .cons (by kernel_rfl) <| .cons (by kernel_rfl) <| .nil)) <| .cons (AllM.at (.cons (by kernel_rfl) <| .cons (by kernel_rfl) <| .cons (by kernel_rfl) <| .cons (by kernel_rfl) <| .cons (by kernel_rfl) <| .cons (by kernel_rfl) <| .cons (by kernel_rfl) <| .cons (by kernel_rfl) <| .cons (by kernel_rfl) <| .cons (by kernel_rfl) <| .cons (by kernel_rfl) <| .cons (by kernel_rfl) <| .cons (by kernel_rfl) <| .cons (by kernel_rfl) <| .cons (by kernel_rfl) <| .cons (by kernel_rfl) <| .cons (by kernel_rfl) <| .cons (by kernel_rfl) <| .cons (by kernel_rfl) <| .cons (by kernel_rfl) <| .nil)) <| .cons (AllM.at (.cons (by kernel_rfl) <| .cons (by kernel_rfl) <| .cons (by kernel_rfl) <| .cons (by kernel_rfl) <| .cons (by kernel_rfl) <| .cons (by kernel_rfl) <| .cons (by kernel_rfl) <| .cons (by kernel_rfl) <| .cons (by kernel_rfl) <| .cons (by kernel_rfl) <| .cons (by kernel_rfl) <| .cons (by kernel_rfl) <| .cons (by kernel_rfl) <| .cons (by kernel_rfl) <| .cons (by kernel_rfl) <| .cons (by kernel_rfl) <| .cons (by kernel_rfl) <| .cons (by kernel_rfl) <| .cons (by kernel_rfl) <| .cons (by kernel_rfl) <| .nil)) <| .cons (AllM.at (.cons (by kernel_rfl) <| .cons (by kernel_rfl) <| .cons (by kernel_rfl) <| .cons (by kernel_rfl) <| .cons (by kernel_rfl) <| .cons (by kernel_rfl) <| .cons (by kernel_rfl) <| .cons (by kernel_rfl) <| .cons (by kernel_rfl) <| .cons (by kernel_rfl) <| .cons (by kernel_rfl) <| .cons (by kernel_rfl) <| .cons (by kernel_rfl) <| .cons (by kernel_rfl) <| .cons (by kernel_rfl) <| .cons (by kernel_rfl) <| .cons (by kernel_rfl) <| .cons (by kernel_rfl) <| .cons (by kernel_rfl) <| .cons (by kernel_rfl) <| .nil)) <| .cons (AllM.at (.cons (by kernel_rfl) <| .cons (by kernel_rfl) <| .cons (by kernel_rfl) <| .cons (by kernel_rfl) <| .cons (by kernel_rfl) <| .cons (by kernel_rfl) <| .cons (by kernel_rfl) <| .cons (by kernel_rfl) <| .cons (by kernel_rfl) <| .cons (by kernel_rfl) <| .cons (by kernel_rfl) <| .cons (by kernel_rfl) <| .cons (by kernel_rfl) <| .cons (by kernel_rfl) <| .cons (by kernel_rfl) <| .cons (by kernel_rfl) <| .cons (by kernel_rfl) <| .cons (by kernel_rfl) <| .cons (by kernel_rfl) <| .cons (by kernel_rfl) <| .nil)) <| .cons (AllM.at (.cons (by kernel_rfl) <| .cons (by kernel_rfl) <| .cons (by kernel_rfl) <| .cons (by kernel_rfl) <| .cons (by kernel_rfl) <| .cons (by kernel_rfl) <| .cons (by kernel_rfl) <| .cons (by kernel_rfl) <| .cons (by kernel_rfl) <| .cons (by kernel_rfl) <| .cons (by kernel_rfl) <| .cons (by kernel_rfl) <| .cons (by kernel_rfl) <| .cons (by kernel_rfl) <| .cons (by kernel_rfl) <| .cons (by kernel_rfl) <| .cons (by kernel_rfl) <| .cons (by kernel_rfl) <| .cons (by kernel_rfl) <| .cons (by kernel_rfl) <| .nil)) <| .cons (AllM.at (.cons (by kernel_rfl) <| .cons (by kernel_rfl) <| .cons (by kernel_rfl) <| .cons (by kernel_rfl) <| .cons (by kernel_rfl) <| .cons (by kernel_rfl) <| .cons (by kernel_rfl) <| .cons (by kernel_rfl) <| .cons (by kernel_rfl) <| .cons (by kernel_rfl) <| .cons (by kernel_rfl) <| .cons (by kernel_rfl) <| .cons (by kernel_rfl) <| .cons (by kernel_rfl) <| .cons (by kernel_rfl) <| .cons (by kernel_rfl) <| .cons (by kernel_rfl) <| .cons (by kernel_rfl) <| .cons (by kernel_rfl) <| .cons (by kernel_rfl) <| .nil)) <| .cons (AllM.at (.cons (by kernel_rfl) <| .cons (by kernel_rfl) <| .cons (by kernel_rfl) <| .cons (by kernel_rfl) <| .cons (by kernel_rfl) <| .cons (by kernel_rfl) <| .cons (by kernel_rfl) <| .cons (by kernel_rfl) <| .cons (by kernel_rfl) <| .cons (by kernel_rfl) <| .cons (by kernel_rfl) <| .cons (by kernel_rfl) <| .cons (by kernel_rfl) <| .cons (by kernel_rfl) <| .cons (by kernel_rfl) <| .cons (by kernel_rfl) <| .cons (by kernel_rfl) <| .cons (by kernel_rfl) <| .cons (by kernel_rfl) <| .cons (by kernel_rfl) <| .nil)) <| .nil)
theorem pair21 (k : Nat) (t : P) : ∀ p ∈ VP, ∀ h ∈ VH, evCs (ev G (evF G k) k (N0 + 39)) (rsF G k) G.su [st21 2, st21 3] [V p, V h, V t, none, none] [] = out21 p h t := AllM.at (.cons (AllM.at (.cons (by kernel_rfl) <| .cons (by kernel_rfl) <| .cons (by kernel_rfl) <| .cons (by kernel_rfl) <| .cons (by kernel_rfl) <| .cons (by kernel_rfl) <| .cons (by kernel_rfl) <| .cons (by kernel_rfl) <| .cons (by kernel_rfl) <| .cons (by kernel_rfl) <| .cons (by kernel_rfl) <| .cons (by kernel_rfl) <| .cons (by kernel_rfl) <| .cons (by kernel_rfl) <| .cons (by kernel_rfl) <| .cons (by kernel_rfl) <| .cons (by kernel_rfl) <| .cons (by kernel_rfl) <| .cons (by kernel_rfl) <| .cons (by kernel_rfl) <| .nil)) <| .cons (AllM.at (.cons (by kernel_rfl) <| .cons (by kernel_rfl) <| .cons (by kernel_rfl) <| .cons (by kernel_rfl) <| .cons (by kernel_rfl) <| .cons (by kernel_rfl) <| .cons (by kernel_rfl) <| .cons (by kernel_rfl) <| .cons (by kernel_rfl) <| .cons (by kernel_rfl) <| .cons (by kernel_rfl) <| .cons (by kernel_rfl) <| .cons (by kernel_rfl) <| .cons (by kernel_rfl) <| .cons (by kernel_rfl) <| .cons (by kernel_rfl) <| .cons (by kernel_rfl) <| .cons (by kernel_rfl) <| .cons (by kernel_rfl) <| .cons (by kernel_rfl) <| .nil)) <| .cons (AllM.at (.cons (by kernel_rfl) <| .cons (by kernel_rfl) <| .cons (by kernel_rfl) <| .cons (by kernel_rfl) <| .cons (by kernel_rfl) <| .cons (by kernel_rfl) <| .cons (by kernel_rfl) <| .cons (by kernel_rfl) <| .cons (by kernel_rfl) <| .cons (by kernel_rfl) <| .cons (by kernel_rfl) <| .cons (by kernel_rfl) <| .cons (by kernel_rfl) <| .cons (by kernel_rfl) <| .cons (by kernel_rfl) <| .cons (by kernel_rfl) <| .cons (by kernel_rfl) <| .cons (by kernel_rfl) <| .cons (by kernel_rfl) <| .cons (by kernel_rfl) <| .nil)) <| .cons (AllM.at (.cons (by kernel_rfl) <| .cons (by kernel_rfl) <| .cons (by kernel_rfl) <| .cons (by kernel_rfl) <| .cons (by kernel_rfl) <| .cons (by kernel_rfl) <| .cons (by kernel_rfl) <| .cons (by kernel_rfl) <| .cons (by kernel_rfl) <| .cons (by kernel_rfl) <| .cons (by kernel_rfl) <| .cons (by kernel_rfl) <| .cons (by kernel_rfl) <| .cons (by kernel_rfl) <| .cons (by kernel_rfl) <| .cons (by kernel_rfl) <| .cons (by kernel_rfl) <| .cons (by kernel_rfl) <| .cons (by kernel_rfl) <| .cons (by kernel_rfl) <| .nil)) <| .cons (AllM.at (.cons (by kernel_rfl) <| .cons (by kernel_rfl) <| .cons (by kernel_rfl) <| .cons (by kernel_rfl) <| .cons (by kernel_rfl) <| .cons (by kernel_rfl) <| .cons (by kernel_rfl) <| .cons (by kernel_rfl) <| .cons (by kernel_rfl) <| .cons (by kernel_rfl) <| .cons (by kernel_rfl) <| .cons (by kernel_rfl) <| .cons (by kernel_rfl) <| .cons (by kernel_rfl) <| .cons (by kernel_rfl) <| .cons (by kernel_rfl) <| .cons (by kernel_rfl) <| .cons (by kernel_rfl) <| .cons (by kernel_rfl) <| .cons (by kernel_rfl) <| .nil)) <| .cons (AllM.at (.cons (by kernel_rfl) <| .cons (by kernel_rfl) <| .cons (by kernel_rfl) <| .cons (by kernel_rfl) <| .cons (by kernel_rfl) <| .cons (by kernel_rfl) <| .cons (by kernel_rfl) <| .cons (by kernel_rfl) <| .cons (by kernel_rfl) <| .cons (by kernel_rfl) <| .cons (by kernel_rfl) <| .cons (by kernel_rfl) <| .cons (by kernel_rfl) <| .cons (by kernel_rfl) <| .cons (by kernel_rfl) <| .cons (by kernel_rfl) <| .cons (by kernel_rfl) <| .cons (by kernel_rfl) <| .cons (by kernel_rfl) <| .cons (by kernel_rfl) <| .nil)) <| .cons (AllM.at (.cons (by kernel_rfl) <| .cons (by kernel_rfl) <| .cons (by kernel_rfl) <| .cons (by kernel_rfl) <| .cons (by kernel_rfl) <| .cons (by kernel_rfl) <| .cons (by kernel_rfl) <| .cons (by kernel_rfl) <| .cons (by kernel_rfl) <| .cons (by kernel_rfl) <| .cons (by kernel_rfl) <| .cons (by kernel_rfl) <| .cons (by kernel_rfl) <| .cons (by kernel_rfl) <| .cons (by kernel_rfl) <| .cons (by kernel_rfl) <| .cons (by kernel_rfl) <| .cons (by kernel_rfl) <| .cons (by kernel_rfl) <| .cons (by kernel_rfl) <| .nil)) <| .cons (AllM.at (.cons (by kernel_rfl) <| .cons (by kernel_rfl) <| .cons (by kernel_rfl) <| .cons (by kernel_rfl) <| .cons (by kernel_rfl) <| .cons (by kernel_rfl) <| .cons (by kernel_rfl) <| .cons (by kernel_rfl) <| .cons (by kernel_rfl) <| .cons (by kernel_rfl) <| .cons (by kernel_rfl) <| .cons (by kernel_rfl) <| .cons (by kernel_rfl) <| .cons (by kernel_rfl) <| .cons (by kernel_rfl) <| .cons (by kernel_rfl) <| .cons (by kernel_rfl) <| .cons (by kernel_rfl) <| .cons (by kernel_rfl) <| .cons (by kernel_rfl) <| .nil)) <| .cons (AllM.at (.cons (by kernel_rfl) <| .cons (by kernel_rfl) <| .cons (by kernel_rfl) <| .cons (by kernel_rfl) <| .cons (by kernel_rfl) <| .cons (by kernel_rfl) <| .cons (by kernel_rfl) <| .cons (by kernel_rfl) <| .cons (by kernel_rfl) <| .cons (by kernel_rfl) <| .cons (by kernel_rfl) <| .cons (by kernel_rfl) <| .cons (by kernel_rfl) <| .cons (by kernel_rfl) <| .cons (by kernel_rfl) <| .cons (by kernel_rfl) <| .cons (by kernel_rfl) <| .cons (by kernel_rfl) <| .cons (by kernel_rfl) <| .cons (by kernel_rfl) <| .nil)) <| .cons (AllM.at (.cons (by kernel_rfl) <| .cons (by kernel_rfl) <| .cons (by kernel_rfl) <| .cons (by kernel_rfl) <| .cons (by kernel_rfl) <| .cons (by kernel_rfl) <| .cons (by kernel_rfl) <| .cons (by kernel_rfl) <| .cons (by kernel_rfl) <| .cons (by kernel_rfl) <| .cons (by kernel_rfl) <| .cons (by kernel_rfl) <| .cons (by kernel_rfl) <| .cons (by kernel_rfl) <| .cons (by kernel_rfl) <| .cons (by kernel_rfl) <| .cons (by kernel_rfl) <| .cons (by kernel_rfl) <| .cons (by kernel_rfl) <| .cons (by kernel_rfl) <| .nil)) <| .cons (AllM.at (.cons (by kernel_rfl) <| .cons (by kernel_rfl) <| .cons (by kernel_rfl) <| .cons (by kernel_rfl) <| .cons (by kernel_rfl) <| .cons (by kernel_rfl) <| .cons (by kernel_rfl) <| .cons (by kernel_rfl) <| .cons (by kernel_rfl) <| .cons (by kernel_rfl) <| .cons (by kernel_rfl) <| .cons (by kernel_rfl) <| .cons (by kernel_rfl) <| .cons (by kernel_rfl) <| .cons (by kernel_rfl) <| .cons (by kernel_rfl) <| .cons (by kernel_rfl) <| .cons (by kernel_rfl) <| .cons (by kernel_rfl) <| .cons (by kernel_rfl) <| .nil)) <| .cons (AllM.at (.cons (by kernel_rfl) <| .cons (by kernel_rfl) <| .cons (by kernel_rfl) <| .cons (by kernel_rfl) <| .cons (by kernel_rfl) <| .cons (by kernel_rfl) <| .cons (by kernel_rfl) <| .cons (by kernel_rfl) <| .cons (by kernel_rfl) <| .cons (by kernel_rfl) <| .cons (by kernel_rfl) <| .cons (by kernel_rfl) <| .cons (by kernel_rfl) <| .cons (by kernel_rfl) <| .cons (by kernel_rfl) <| .cons (by kernel_rfl) <| .cons (by kernel_rfl) <| .cons (by kernel_rfl) <| .cons (by kernel_rfl) <| .cons (by kernel_rfl) <| .nil)) <| .cons (AllM.at (.cons (by kernel_rfl) <| .cons (by kernel_rfl) <| .cons (by kernel_rfl) <| .cons (by kernel_rfl) <| .cons (by kernel_rfl) <| .cons (by kernel_rfl) <| .cons (by kernel_rfl) <| .cons (by kernel_rfl) <| .cons (by kernel_rfl) <| .cons (by kernel_rfl) <| .cons (by kernel_rfl) <| .cons (by kernel_rfl) <| .cons (by kernel_rfl) <| .cons (by kernel_rfl) <| .cons (by kernel_rfl) <| .cons (by kernel_rfl) <| .cons (by kernel_rfl) <| .cons (by kernel_rfl) <| .cons (by kernel_rfl) <| .cons (by kernel_rfl) <| .nil)) <| .cons (AllM.at (.cons (by kernel_rfl) <| .cons (by kernel_rfl) <| .cons (by kernel_rfl) <| .cons (by kernel_rfl) <| .cons (by kernel_rfl) <| .cons (by kernel_rfl) <| .cons (by kernel_rfl) <| .cons (by kernel_rfl) <| .cons (by kernel_rfl) <| .cons (by kernel_rfl) <| .cons (by kernel_rfl) <| .cons (by kernel_rfl) <| .cons (by kernel_rfl) <| .cons (by kernel_rfl) <| .cons (by kernel_rfl) <| .cons (by kernel_rfl) <| .cons (by kernel_rfl) <| .cons (by kernel_rfl) <| .cons (by kernel_rfl) <| .cons (by kernel_rfl) <| .nil)) <| .cons (AllM.at (.cons (by kernel_rfl) <| .cons (by kernel_rfl) <| .cons (by kernel_rfl) <| .cons (by kernel_rfl) <| .cons (by kernel_rfl) <| .cons (by kernel_rfl) <| .cons (by kernel_rfl) <| .cons (by kernel_rfl) <| .cons (by kernel_rfl) <| .cons (by kernel_rfl) <| .cons (by kernel_rfl) <| .cons (by kernel_rfl) <| .cons (by kernel_rfl) <| .cons (by kernel_rfl) <| .cons (by kernel_rfl) <| .cons (by kernel_rfl) <| .cons (by kernel_rfl) <| .cons (by kernel_rfl) <| .cons (by kernel_rfl) <| .cons (by kernel_rfl) <| .nil)) <| .cons (AllM.at (.cons (by kernel_rfl) <| .cons (by kernel_rfl) <| .cons (by kernel_rfl) <| .cons (by kernel_rfl) <| .cons (by kernel_rfl) <| .cons (by kernel_rfl) <| .cons (by kernel_rfl) <| .cons (by kernel_rfl) <| .cons (by kernel_rfl) <| .cons (by kernel_rfl) <| .cons (by kernel_rfl) <| .cons (by kernel_rfl) <| .cons (by kernel_rfl) <| .cons (by kernel_rfl) <| .cons (by kernel_rfl) <| .cons (by kernel_rfl) <| .cons (by kernel_rfl) <| .cons (by kernel_rfl) <| .cons (by kernel_rfl) <| .cons (by kernel_rfl) <| .nil)) <| .cons (AllM.at (.cons (by kernel_rfl) <| .cons (by kernel_rfl) <| .cons (by kernel_rfl) <| .cons (by kernel_rfl) <| .cons (by kernel_rfl) <| .cons (by kernel_rfl) <| .cons (by kernel_rfl) <| .cons (by kernel_rfl) <| .cons (by kernel_rfl) <| .cons (by kernel_rfl) <| .cons (by kernel_rfl) <| .cons (by kernel_rfl) <| .cons (by kernel_rfl) <| .cons (by kernel_rfl) <| .cons (by kernel_rfl) <| .cons (by kernel_rfl) <| .cons (by kernel_rfl) <| .cons (by kernel_rfl) <| .cons (by kernel_rfl) <| .cons (by kernel_rfl) <| .nil)) <| .cons (AllM.at (.cons (by kernel_rfl) <| .cons (by kernel_rfl) <| .cons (by kernel_rfl) <| .cons (by kernel_rfl) <| .cons (by kernel_rfl) <| .cons (by kernel_rfl) <| .cons (by kernel_rfl) <| .cons (by kernel_rfl) <| .cons (by kernel_rfl) <| .cons (by kernel_rfl) <| .cons (by kernel_rfl) <| .cons (by kernel_rfl) <| .cons (by kernel_rfl) <| .cons (by kernel_rfl) <| .cons (by kernel_rfl) <| .cons (by kernel_rfl) <| .cons (by kernel_rfl) <| .cons (by kernel_rfl) <| .cons (by kernel_rfl) <| .cons (by kernel_rfl) <| .nil)) <| .cons (AllM.at (.cons (by kernel_rfl) <| .cons (by kernel_rfl) <| .cons (by kernel_rfl) <| .cons (by kernel_rfl) <| .cons (by kernel_rfl) <| .cons (by kernel_rfl) <| .cons (by kernel_rfl) <| .cons (by kernel_rfl) <| .cons (by kernel_rfl) <| .cons (by kernel_rfl) <| .cons (by kernel_rfl) <| .cons (by kernel_rfl) <| .cons (by kernel_rfl) <| .cons (by kernel_rfl) <| .cons (by kernel_rfl) <| .cons (by kernel_rfl) <| .cons (by kernel_rfl) <| .cons (by kernel_rfl) <| .cons (by kernel_rfl) <| .cons (by kernel_rfl) <| .nil)) <| .nil)
end Lw28
namespace Lw28
open PySem Mn
theorem seq {s : Ev} {rs : Option (Nat → P → Option Ex)} {su : Nat → Nat → Option Bool} {c : C} {cs : List C} {L L1 : Mn.Loc} {S S1 : Sto} {r : Fl} (h : evC s rs su c L S = .nx L1 S1) (h2 : evCs s rs su cs L1 S1 = r) : evCs s rs su (c :: cs) L S = r := by
  rw [q_cons, h, q_thn, h2]
theorem seqR {s : Ev} {rs : Option (Nat → P → Option Ex)} {su : Nat → Nat → Option Bool} {c : C} {cs : List C} {L : Mn.Loc} {S S1 : Sto} {d : D} (h : evC s rs su c L S = .rt d S1) : evCs s rs su (c :: cs) L S = .rt d S1 := by
  rw [q_cons, h, q_tht]
/-- a call of data alone, from a frame -/
theorem cr {j f fr : Nat} {L : Mn.Loc} {ps : List P} {x : P} {S : Sto} (h : evF G j f (ps.map .p) [] = .ok (.p x) []) : callR (evF G j) fr L f (ps.map .p) S = .ok (.p x) S := by
  have a0 : ∀ ps : List P, resDs fr L (ps.map D.p) = some (ps.map .p) := fun ps => by
    induction ps with
    | nil => rfl
    | cons p ps ih =>
      show (match resD fr L (.p p), resDs fr L (ps.map D.p) with
        | some x, some xs => some (x :: xs)
        | _, _ => none) = _
      rw [ih]
      rfl
  have a2 : ∀ ps : List P, (ps.map D.p).all aloD = true := fun ps => by
    induction ps with
    | nil => rfl
    | cons p ps ih => exact ih
  unfold callR
  rw [a0]
  dsimp only
  unfold callD
  rw [if_pos (a2 ps), h]
/-- if not f(x, a, b): return r -/
theorem guard {j f i fr : Nat} {L : Mn.Loc} {S : Sto} {v : P} {a b : Int} {bb : Bool} {rr : Mn.E} {x : P} {rs : Option (Nat → P → Option Ex)} {su : Nat → Nat → Option Bool} (hv : L[i]? = some (some (.p v))) (h : evF G j f [.p v, I a, I b] [] = .ok (B bb) []) (hx : (ev G (evF G j) fr (N0 + 38)).e rr L S = .ok (.p x) S) :
    evC (ev G (evF G j) fr (N0 + 39)) rs su (.ite (.not (.call f [(.v i), (.k (.int a)), (.k (.int b))])) [(.ret rr)] []) L S = if bb then .nx L S else .rt (.p x) S := by
  have q := cr (j := j) (fr := fr) (L := L) (ps := [v, .int a, .int b]) (S := S) h
  have t : (ev G (evF G j) fr (N0 + 39)).t (.not (.call f [(.v i), (.k (.int a)), (.k (.int b))])) L S = .ok (!bb) S := by
    rw [show N0 + 39 = N0 + 37 + 2 from rfl, q_evT, q_tnot, q_evT, q_tcall, q_call, show N0 + 37 = N0 + 36 + 1 from rfl, q_es, q_evE, q_v, hv, q_ok]
    show ((callR (evF G j) fr L f [.p v, I a, I b] S).bind fun x S1 => truR x S1).bind _ = _
    rw [show callR (evF G j) fr L f [.p v, I a, I b] S = .ok (B bb) S from q, q_ok, q_trub, q_ok]
  rw [q_cite, t, q_fl]
  cases bb with
  | true => rfl
  | false =>
    rw [if_pos (show (!false) = true from rfl), show N0 + 39 = N0 + 38 + 1 from rfl, q_evC, q_cons, q_ret, hx, q_fl, q_tht]
    rfl
def PL : P := .tup [.str "places"]
def HA : P := .tup [.str "hands"]
def TA : P := .tup [.str "table"]
/-- the first fault -/
inductive FR (p h t : P) : P → Prop
  | pl : p ∈ IP → FR p h t PL
  | ha : p ∈ VP → h ∈ IH → FR p h t HA
  | tw {x : P} : p ∈ VP → h ∈ VH → bo p h = some x → FR p h t (twi x)
  | ok : p ∈ VP → h ∈ VH → bo p h = none → tabB (itemsP p).length ((itemsP p).length + (itemsP h).length) t = true → FR p h t .non
  | ta : p ∈ VP → h ∈ VH → bo p h = none → tabB (itemsP p).length ((itemsP p).length + (itemsP h).length) t = false → FR p h t TA
theorem tupP : ∀ v ∈ VP, v = .tup (itemsP v) := AllM.at (.cons rfl <| .cons rfl <| .cons rfl <| .cons rfl <| .cons rfl <| .cons rfl <| .cons rfl <| .cons rfl <| .cons rfl <| .cons rfl <| .cons rfl <| .cons rfl <| .cons rfl <| .cons rfl <| .cons rfl <| .cons rfl <| .cons rfl <| .cons rfl <| .cons rfl <| .nil)
theorem tupH : ∀ v ∈ VH, v = .tup (itemsP v) := AllM.at (.cons rfl <| .cons rfl <| .cons rfl <| .cons rfl <| .cons rfl <| .cons rfl <| .cons rfl <| .cons rfl <| .cons rfl <| .cons rfl <| .cons rfl <| .cons rfl <| .cons rfl <| .cons rfl <| .cons rfl <| .cons rfl <| .cons rfl <| .cons rfl <| .cons rfl <| .cons rfl <| .nil)
theorem s90 (k : Nat) (p h : P) (bb : Bool) (q : evF G (k + 2) 8 [.p p, I 1, I 5] [] = .ok (B bb) []) : evC (ev G (evF G (k + 2)) (k + 2) (N0 + 39)) (rsF G (k + 2)) G.su (st9 0) [V p, V h, none, none] [] = if bb then .nx [V p, V h, none, none] [] else .rt (.p PL) [] := guard (i := 0) rfl q rfl
theorem s91 (k : Nat) (p h : P) (bb : Bool) (q : evF G (k + 2) 8 [.p h, I 0, I 4] [] = .ok (B bb) []) : evC (ev G (evF G (k + 2)) (k + 2) (N0 + 39)) (rsF G (k + 2)) G.su (st9 1) [V p, V h, none, none] [] = if bb then .nx [V p, V h, none, none] [] else .rt (.p HA) [] := guard (i := 1) rfl q rfl
theorem run9 (k : Nat) (p h r : P) (q : evCs (ev G (evF G (k + 2)) (k + 2) (N0 + 39)) (rsF G (k + 2)) G.su [st9 0, st9 1, st9 2, st9 3] [V p, V h, none, none] [] = .rt (.p r) []) : evF G (k + 3) 9 [.p p, .p h] [] = .ok (.p r) [] := by
  rw [runF (k + 2) 9 [.p p, .p h] [] g9 rfl rfl]
  show endR _ (evCs _ _ _ [st9 0, st9 1, st9 2, st9 3] [V p, V h, none, none] []) = _
  rw [q]
  rfl
/-- names_fault -/
theorem f9a (k : Nat) {p : P} (h : P) (hp : p ∈ IP) : evF G (k + 3) 9 [.p p, .p h] [] = .ok (.p PL) [] := run9 _ _ _ _ (seqR (s90 k p h false (ip8 k p hp)))
theorem f9b (k : Nat) {p h : P} (hp : p ∈ VP) (hh : h ∈ IH) : evF G (k + 3) 9 [.p p, .p h] [] = .ok (.p HA) [] := run9 _ _ _ _ (seq (s90 k p h true (vp8 k p hp)) (seqR (s91 k p h false (ih8 k h hh))))
theorem f9c (k : Nat) {p h : P} (hp : p ∈ VP) (hh : h ∈ VH) : evF G (k + 3) 9 [.p p, .p h] [] = .ok (.p (boP p h)) [] := run9 _ _ _ _ (seq (s90 k p h true (vp8 k p hp)) (seq (s91 k p h true (vh8 k h hh)) (pair9 (k + 2) p hp h hh)))
/-! ### works_fault -/
def st10 (i : Nat) : C := g10.b.getD i .bad
abbrev EX (k : Nat) (c : C) (L : Mn.Loc) : Fl := evC (ev G (evF G k) k (N0 + 39)) (rsF G k) G.su c L []
theorem s100 (k : Nat) {p h r : P} (t : P) (q : evF G (k + 5) 9 [.p p, .p h] [] = .ok (.p r) []) : EX (k + 5) (st10 0) [V p, V h, V t, none] = .nx [V p, V h, V t, V r] [] := by
  have q := cr (j := k + 5) (fr := k + 5) (L := [V p, V h, V t, none]) (ps := [p, h]) (S := []) q
  show evC _ _ _ (.set 3 (.call 9 [(.v 0), (.v 1)])) _ [] = _
  rw [q_set, show N0 + 39 = N0 + 38 + 1 from rfl, q_evE, q_call]
  show R.fl [V p, V h, V t, none] (callR (evF G (k + 5)) (k + 5) [V p, V h, V t, none] 9 [.p p, .p h] []) _ = _
  rw [show callR (evF G (k + 5)) (k + 5) [V p, V h, V t, none] 9 [.p p, .p h] [] = .ok (.p r) [] from q]
  rfl
theorem s101 (k : Nat) (p h t r : P) (hr : isNon r = some false) : EX k (st10 1) [V p, V h, V t, V r] = .rt (.p r) [] := by
  show evC _ _ _ (.ite (.cmp .isn (.v 3) (.k .non)) [(.ret (.v 3))] []) _ [] = _
  have c : cmpR .isn (.p r) (.p .non) [] = .ok (B true) [] := by
    show evB ((isNon r).map not) [] = _
    rw [hr]
    rfl
  have e : (ev G (evF G k) k (N0 + 39)).t (.cmp .isn (.v 3) (.k .non)) [V p, V h, V t, V r] [] = .ok true [] := by
    rw [show N0 + 39 = N0 + 38 + 1 from rfl, q_evT, q_tcmp]
    show (cmpR .isn (.p r) (.p .non) []).bind _ = _
    rw [c, q_ok, q_trub]
  rw [q_cite, e, q_fl]
  rfl
theorem s101n (k : Nat) (p h t : P) : EX k (st10 1) [V p, V h, V t, V .non] = .nx [V p, V h, V t, V .non] [] := by kernel_rfl
/-- the table's turn, by a judge of tables -/
theorem tabR {f : Nat} (k : Nat) {p h t : P} {L : Mn.Loc} (h0 : L[0]? = some (V p)) (h1 : L[1]? = some (V h)) (h2 : L[2]? = some (V t)) (hp : p ∈ VP) (hh : h ∈ VH) {b : Bool} (q : evF G (k + 5) f [I (itemsP p).length, I ((itemsP p).length + (itemsP h).length : Nat), .p t] [] = .ok (B b) []) :
    EX (k + 5) (.ret (.ite (.call f [(.bi .len [(.v 0)]), (.bin .add (.bi .len [(.v 0)]) (.bi .len [(.v 1)])), (.v 2)]) (.k .non) (.tup [(.k (.str "table"))]))) L = .rt (.p (if b then .non else TA)) [] := by
  have lp : biR .len [.p p] [] = .ok (I (itemsP p).length) [] := by
    rw [tupP p hp]
    rfl
  have lh : biR .len [.p h] [] = .ok (I (itemsP h).length) [] := by
    rw [tupH h hh]
    rfl
  have q := cr (j := k + 5) (fr := k + 5) (L := L) (ps := [.int (itemsP p).length, .int ((itemsP p).length + (itemsP h).length : Nat), t]) (S := []) q
  have a : evs (ev G (evF G (k + 5)) (k + 5) (N0 + 37)) [(.bi .len [(.v 0)]), (.bin .add (.bi .len [(.v 0)]) (.bi .len [(.v 1)])), (.v 2)] L [] = .ok [I (itemsP p).length, I ((itemsP p).length + (itemsP h).length : Nat), .p t] [] := by
    have b1 : ∀ n, (ev G (evF G (k + 5)) (k + 5) (n + 2)).e (.bi .len [(.v 0)]) L [] = .ok (I (itemsP p).length) [] := fun n => by
      rw [q_evE, q_bi, q_es, q_evE, q_v, h0, q_ok, q_es0, q_ok, q_ok, lp]
    have b2 : ∀ n, (ev G (evF G (k + 5)) (k + 5) (n + 2)).e (.bi .len [(.v 1)]) L [] = .ok (I (itemsP h).length) [] := fun n => by
      rw [q_evE, q_bi, q_es, q_evE, q_v, h1, q_ok, q_es0, q_ok, q_ok, lh]
    have b3 : (ev G (evF G (k + 5)) (k + 5) (N0 + 37)).e (.bin .add (.bi .len [(.v 0)]) (.bi .len [(.v 1)])) L [] = .ok (I ((itemsP p).length + (itemsP h).length : Nat)) [] := by
      rw [show N0 + 37 = N0 + 34 + 2 + 1 from rfl, q_evE, q_bin, b1, q_ok, b2, q_ok]
      rfl
    have b4 : (ev G (evF G (k + 5)) (k + 5) (N0 + 37)).e (.v 2) L [] = .ok (.p t) [] := by
      rw [show N0 + 37 = N0 + 36 + 1 from rfl, q_evE, q_v, h2]
    have b5 : (ev G (evF G (k + 5)) (k + 5) (N0 + 37)).e (.bi .len [(.v 0)]) L [] = .ok (I (itemsP p).length) [] := b1 (N0 + 35)
    rw [q_es, b5, q_ok, q_es, b3, q_ok, q_es, b4, q_ok, q_es0, q_ok, q_ok, q_ok]
  have e : (ev G (evF G (k + 5)) (k + 5) (N0 + 38)).t (.call f [(.bi .len [(.v 0)]), (.bin .add (.bi .len [(.v 0)]) (.bi .len [(.v 1)])), (.v 2)]) L [] = .ok b [] := by
    rw [show N0 + 38 = N0 + 37 + 1 from rfl, q_evT, q_tcall, q_call, a, q_ok]
    show (callR (evF G (k + 5)) (k + 5) L f (List.map D.p [.int (itemsP p).length, .int ((itemsP p).length + (itemsP h).length : Nat), t]) []).bind _ = _
    rw [q, q_ok, q_trub]
  show evC _ _ _ (.ret (.ite _ _ _)) L [] = _
  rw [q_ret, show N0 + 39 = N0 + 38 + 1 from rfl, q_evE, q_ite, e, q_ok]
  cases b with
  | true => rfl
  | false => rfl
theorem run10 (k : Nat) (p h t r : P) (q : evCs (ev G (evF G (k + 5)) (k + 5) (N0 + 39)) (rsF G (k + 5)) G.su [st10 0, st10 1, st10 2] [V p, V h, V t, none] [] = .rt (.p r) []) : evF G (k + 6) 10 [.p p, .p h, .p t] [] = .ok (.p r) [] := by
  rw [runF (k + 5) 10 [.p p, .p h, .p t] [] g10 rfl rfl]
  show endR _ (evCs _ _ _ [st10 0, st10 1, st10 2] [V p, V h, V t, none] []) = _
  rw [q]
  rfl
theorem f10 (k : Nat) {p h t r : P} (ht : TV t) (fr : FR p h t r) : evF G (k + 6) 10 [.p p, .p h, .p t] [] = .ok (.p r) [] := by
  cases fr with
  | pl hp => exact run10 _ _ _ _ _ (seq (s100 k t (f9a (k + 2) h hp)) (seqR (s101 _ _ _ _ _ rfl)))
  | ha hp hh => exact run10 _ _ _ _ _ (seq (s100 k t (f9b (k + 2) hp hh)) (seqR (s101 _ _ _ _ _ rfl)))
  | tw hp hh e =>
    have q := f9c (k + 2) hp hh
    unfold boP at q
    rw [e] at q
    exact run10 _ _ _ _ _ (seq (s100 k t q) (seqR (s101 _ _ _ _ _ rfl)))
  | ok hp hh e b =>
    have q := f9c (k + 2) hp hh
    unfold boP at q
    rw [e] at q
    have z := tabR (L := [V p, V h, V t, V .non]) k rfl rfl rfl hp hh (t6 k (itemsP p).length ((itemsP p).length + (itemsP h).length) ht)
    rw [b] at z
    exact run10 _ _ _ _ _ (seq (s100 k t q) (seq (s101n _ _ _ _) (seqR z)))
  | ta hp hh e b =>
    have q := f9c (k + 2) hp hh
    unfold boP at q
    rw [e] at q
    have z := tabR (L := [V p, V h, V t, V .non]) k rfl rfl rfl hp hh (t6 k (itemsP p).length ((itemsP p).length + (itemsP h).length) ht)
    rw [b] at z
    exact run10 _ _ _ _ _ (seq (s100 k t q) (seq (s101n _ _ _ _) (seqR z)))
end Lw28
namespace Lw28
open PySem Mn
theorem evCs_app (s : Ev) (rs : Option (Nat → P → Option Ex)) (su : Nat → Nat → Option Bool) : ∀ (a b : List C) (L : Mn.Loc) (S : Sto), evCs s rs su (a ++ b) L S = (evCs s rs su a L S).then fun L1 S1 => evCs s rs su b L1 S1
  | [], b, L, S => rfl
  | c :: a, b, L, S => by
    show (evC s rs su c L S).then (fun L1 S1 => evCs s rs su (a ++ b) L1 S1) = ((evC s rs su c L S).then fun L1 S1 => evCs s rs su a L1 S1).then _
    cases evC s rs su c L S with
    | nx L1 S1 => exact evCs_app s rs su a b L1 S1
    | _ => rfl
/-! ### the law's own look -/
theorem s210 (k : Nat) (p h t : P) (bb : Bool) (q : evF G (k + 2) 20 [.p p, I 1, I 5] [] = .ok (B bb) []) : evC (ev G (evF G (k + 2)) (k + 2) (N0 + 39)) (rsF G (k + 2)) G.su (st21 0) [V p, V h, V t, none, none] [] = if bb then .nx [V p, V h, V t, none, none] [] else .rt (.p PL) [] := guard (i := 0) rfl q rfl
theorem s211 (k : Nat) (p h t : P) (bb : Bool) (q : evF G (k + 2) 20 [.p h, I 0, I 4] [] = .ok (B bb) []) : evC (ev G (evF G (k + 2)) (k + 2) (N0 + 39)) (rsF G (k + 2)) G.su (st21 1) [V p, V h, V t, none, none] [] = if bb then .nx [V p, V h, V t, none, none] [] else .rt (.p HA) [] := guard (i := 1) rfl q rfl
theorem run21 (k : Nat) (p h t r : P) (q : evCs (ev G (evF G (k + 5)) (k + 5) (N0 + 39)) (rsF G (k + 5)) G.su [st21 0, st21 1, st21 2, st21 3, st21 4] [V p, V h, V t, none, none] [] = .rt (.p r) []) : evF G (k + 6) 21 [.p p, .p h, .p t] [] = .ok (.p r) [] := by
  rw [runF (k + 5) 21 [.p p, .p h, .p t] [] g21 rfl rfl]
  show endR _ (evCs _ _ _ [st21 0, st21 1, st21 2, st21 3, st21 4] [V p, V h, V t, none, none] []) = _
  rw [q]
  rfl
theorem mid {s : Ev} {rs : Option (Nat → P → Option Ex)} {su : Nat → Nat → Option Bool} {a b c : C} {L : Mn.Loc} {S : Sto} {r r' : Fl} (h : evCs s rs su [a, b] L S = r) (h2 : (r.then fun L1 S1 => evCs s rs su [c] L1 S1) = r') : evCs s rs su [a, b, c] L S = r' := by
  rw [show [a, b, c] = [a, b] ++ [c] from rfl, evCs_app, h, h2]
theorem f21 (k : Nat) {p h t r : P} (ht : TV t) (fr : FR p h t r) : evF G (k + 6) 21 [.p p, .p h, .p t] [] = .ok (.p r) [] := by
  cases fr with
  | pl hp => exact run21 _ _ _ _ _ (seqR (s210 (k + 3) p h t false (ip20 _ p hp)))
  | ha hp hh => exact run21 _ _ _ _ _ (seq (s210 (k + 3) p h t true (vp20 _ p hp)) (seqR (s211 (k + 3) p h t false (ih20 _ h hh))))
  | tw hp hh e =>
    have q := pair21 (k + 5) t p hp h hh
    unfold out21 at q
    rw [e] at q
    exact run21 _ _ _ _ _ (seq (s210 (k + 3) p h t true (vp20 _ p hp)) (seq (s211 (k + 3) p h t true (vh20 _ h hh)) (mid q rfl)))
  | ok hp hh e b =>
    have q := pair21 (k + 5) t p hp h hh
    unfold out21 at q
    rw [e] at q
    have z := tabR (L := [V p, V h, V t, V (.lst []), none]) k rfl rfl rfl hp hh (t17 k (itemsP p).length ((itemsP p).length + (itemsP h).length) ht)
    rw [b] at z
    exact run21 _ _ _ _ _ (seq (s210 (k + 3) p h t true (vp20 _ p hp)) (seq (s211 (k + 3) p h t true (vh20 _ h hh)) (mid q (seqR z))))
  | ta hp hh e b =>
    have q := pair21 (k + 5) t p hp h hh
    unfold out21 at q
    rw [e] at q
    have z := tabR (L := [V p, V h, V t, V (.lst []), none]) k rfl rfl rfl hp hh (t17 k (itemsP p).length ((itemsP p).length + (itemsP h).length) ht)
    rw [b] at z
    exact run21 _ _ _ _ _ (seq (s210 (k + 3) p h t true (vp20 _ p hp)) (seq (s211 (k + 3) p h t true (vh20 _ h hh)) (mid q (seqR z))))
/-- there is one -/
theorem has (p h t : P) (hp : p ∈ IP ∨ p ∈ VP) (hh : h ∈ IH ∨ h ∈ VH) : ∃ r, FR p h t r := by
  rcases hp with hp | hp
  · exact ⟨_, .pl hp⟩
  · rcases hh with hh | hh
    · exact ⟨_, .ha hp hh⟩
    · cases e : bo p h with
      | some x => exact ⟨_, .tw hp hh e⟩
      | none =>
        cases b : tabB (itemsP p).length ((itemsP p).length + (itemsP h).length) t with
        | true => exact ⟨_, .ok hp hh e b⟩
        | false => exact ⟨_, .ta hp hh e b⟩
def isS : Option P → Bool
  | some (.str _) => true
  | _ => false
def msgB (p h : P) : Bool := match bo p h with
  | some x => isS (repr1 (twi x)) && (fst1 "no works: " "" (twi x)).isSome
  | none => true
theorem pairM : ∀ p ∈ VP, ∀ h ∈ VH, msgB p h = true := AllM.at (.cons (AllM.at (.cons (by kernel_rfl) <| .cons (by kernel_rfl) <| .cons (by kernel_rfl) <| .cons (by kernel_rfl) <| .cons (by kernel_rfl) <| .cons (by kernel_rfl) <| .cons (by kernel_rfl) <| .cons (by kernel_rfl) <| .cons (by kernel_rfl) <| .cons (by kernel_rfl) <| .cons (by kernel_rfl) <| .cons (by kernel_rfl) <| .cons (by kernel_rfl) <| .cons (by kernel_rfl) <| .cons (by kernel_rfl) <| .cons (by kernel_rfl) <| .cons (by kernel_rfl) <| .cons (by kernel_rfl) <| .cons (by kernel_rfl) <| .cons (by kernel_rfl) <| .nil)) <| .cons (AllM.at (.cons (by kernel_rfl) <| .cons (by kernel_rfl) <| .cons (by kernel_rfl) <| .cons (by kernel_rfl) <| .cons (by kernel_rfl) <| .cons (by kernel_rfl) <| .cons (by kernel_rfl) <| .cons (by kernel_rfl) <| .cons (by kernel_rfl) <| .cons (by kernel_rfl) <| .cons (by kernel_rfl) <| .cons (by kernel_rfl) <| .cons (by kernel_rfl) <| .cons (by kernel_rfl) <| .cons (by kernel_rfl) <| .cons (by kernel_rfl) <| .cons (by kernel_rfl) <| .cons (by kernel_rfl) <| .cons (by kernel_rfl) <| .cons (by kernel_rfl) <| .nil)) <| .cons (AllM.at (.cons (by kernel_rfl) <| .cons (by kernel_rfl) <| .cons (by kernel_rfl) <| .cons (by kernel_rfl) <| .cons (by kernel_rfl) <| .cons (by kernel_rfl) <| .cons (by kernel_rfl) <| .cons (by kernel_rfl) <| .cons (by kernel_rfl) <| .cons (by kernel_rfl) <| .cons (by kernel_rfl) <| .cons (by kernel_rfl) <| .cons (by kernel_rfl) <| .cons (by kernel_rfl) <| .cons (by kernel_rfl) <| .cons (by kernel_rfl) <| .cons (by kernel_rfl) <| .cons (by kernel_rfl) <| .cons (by kernel_rfl) <| .cons (by kernel_rfl) <| .nil)) <| .cons (AllM.at (.cons (by kernel_rfl) <| .cons (by kernel_rfl) <| .cons (by kernel_rfl) <| .cons (by kernel_rfl) <| .cons (by kernel_rfl) <| .cons (by kernel_rfl) <| .cons (by kernel_rfl) <| .cons (by kernel_rfl) <| .cons (by kernel_rfl) <| .cons (by kernel_rfl) <| .cons (by kernel_rfl) <| .cons (by kernel_rfl) <| .cons (by kernel_rfl) <| .cons (by kernel_rfl) <| .cons (by kernel_rfl) <| .cons (by kernel_rfl) <| .cons (by kernel_rfl) <| .cons (by kernel_rfl) <| .cons (by kernel_rfl) <| .cons (by kernel_rfl) <| .nil)) <| .cons (AllM.at (.cons (by kernel_rfl) <| .cons (by kernel_rfl) <| .cons (by kernel_rfl) <| .cons (by kernel_rfl) <| .cons (by kernel_rfl) <| .cons (by kernel_rfl) <| .cons (by kernel_rfl) <| .cons (by kernel_rfl) <| .cons (by kernel_rfl) <| .cons (by kernel_rfl) <| .cons (by kernel_rfl) <| .cons (by kernel_rfl) <| .cons (by kernel_rfl) <| .cons (by kernel_rfl) <| .cons (by kernel_rfl) <| .cons (by kernel_rfl) <| .cons (by kernel_rfl) <| .cons (by kernel_rfl) <| .cons (by kernel_rfl) <| .cons (by kernel_rfl) <| .nil)) <| .cons (AllM.at (.cons (by kernel_rfl) <| .cons (by kernel_rfl) <| .cons (by kernel_rfl) <| .cons (by kernel_rfl) <| .cons (by kernel_rfl) <| .cons (by kernel_rfl) <| .cons (by kernel_rfl) <| .cons (by kernel_rfl) <| .cons (by kernel_rfl) <| .cons (by kernel_rfl) <| .cons (by kernel_rfl) <| .cons (by kernel_rfl) <| .cons (by kernel_rfl) <| .cons (by kernel_rfl) <| .cons (by kernel_rfl) <| .cons (by kernel_rfl) <| .cons (by kernel_rfl) <| .cons (by kernel_rfl) <| .cons (by kernel_rfl) <| .cons (by kernel_rfl) <| .nil)) <| .cons (AllM.at (.cons (by kernel_rfl) <| .cons (by kernel_rfl) <| .cons (by kernel_rfl) <| .cons (by kernel_rfl) <| .cons (by kernel_rfl) <| .cons (by kernel_rfl) <| .cons (by kernel_rfl) <| .cons (by kernel_rfl) <| .cons (by kernel_rfl) <| .cons (by kernel_rfl) <| .cons (by kernel_rfl) <| .cons (by kernel_rfl) <| .cons (by kernel_rfl) <| .cons (by kernel_rfl) <| .cons (by kernel_rfl) <| .cons (by kernel_rfl) <| .cons (by kernel_rfl) <| .cons (by kernel_rfl) <| .cons (by kernel_rfl) <| .cons (by kernel_rfl) <| .nil)) <| .cons (AllM.at (.cons (by kernel_rfl) <| .cons (by kernel_rfl) <| .cons (by kernel_rfl) <| .cons (by kernel_rfl) <| .cons (by kernel_rfl) <| .cons (by kernel_rfl) <| .cons (by kernel_rfl) <| .cons (by kernel_rfl) <| .cons (by kernel_rfl) <| .cons (by kernel_rfl) <| .cons (by kernel_rfl) <| .cons (by kernel_rfl) <| .cons (by kernel_rfl) <| .cons (by kernel_rfl) <| .cons (by kernel_rfl) <| .cons (by kernel_rfl) <| .cons (by kernel_rfl) <| .cons (by kernel_rfl) <| .cons (by kernel_rfl) <| .cons (by kernel_rfl) <| .nil)) <| .cons (AllM.at (.cons (by kernel_rfl) <| .cons (by kernel_rfl) <| .cons (by kernel_rfl) <| .cons (by kernel_rfl) <| .cons (by kernel_rfl) <| .cons (by kernel_rfl) <| .cons (by kernel_rfl) <| .cons (by kernel_rfl) <| .cons (by kernel_rfl) <| .cons (by kernel_rfl) <| .cons (by kernel_rfl) <| .cons (by kernel_rfl) <| .cons (by kernel_rfl) <| .cons (by kernel_rfl) <| .cons (by kernel_rfl) <| .cons (by kernel_rfl) <| .cons (by kernel_rfl) <| .cons (by kernel_rfl) <| .cons (by kernel_rfl) <| .cons (by kernel_rfl) <| .nil)) <| .cons (AllM.at (.cons (by kernel_rfl) <| .cons (by kernel_rfl) <| .cons (by kernel_rfl) <| .cons (by kernel_rfl) <| .cons (by kernel_rfl) <| .cons (by kernel_rfl) <| .cons (by kernel_rfl) <| .cons (by kernel_rfl) <| .cons (by kernel_rfl) <| .cons (by kernel_rfl) <| .cons (by kernel_rfl) <| .cons (by kernel_rfl) <| .cons (by kernel_rfl) <| .cons (by kernel_rfl) <| .cons (by kernel_rfl) <| .cons (by kernel_rfl) <| .cons (by kernel_rfl) <| .cons (by kernel_rfl) <| .cons (by kernel_rfl) <| .cons (by kernel_rfl) <| .nil)) <| .cons (AllM.at (.cons (by kernel_rfl) <| .cons (by kernel_rfl) <| .cons (by kernel_rfl) <| .cons (by kernel_rfl) <| .cons (by kernel_rfl) <| .cons (by kernel_rfl) <| .cons (by kernel_rfl) <| .cons (by kernel_rfl) <| .cons (by kernel_rfl) <| .cons (by kernel_rfl) <| .cons (by kernel_rfl) <| .cons (by kernel_rfl) <| .cons (by kernel_rfl) <| .cons (by kernel_rfl) <| .cons (by kernel_rfl) <| .cons (by kernel_rfl) <| .cons (by kernel_rfl) <| .cons (by kernel_rfl) <| .cons (by kernel_rfl) <| .cons (by kernel_rfl) <| .nil)) <| .cons (AllM.at (.cons (by kernel_rfl) <| .cons (by kernel_rfl) <| .cons (by kernel_rfl) <| .cons (by kernel_rfl) <| .cons (by kernel_rfl) <| .cons (by kernel_rfl) <| .cons (by kernel_rfl) <| .cons (by kernel_rfl) <| .cons (by kernel_rfl) <| .cons (by kernel_rfl) <| .cons (by kernel_rfl) <| .cons (by kernel_rfl) <| .cons (by kernel_rfl) <| .cons (by kernel_rfl) <| .cons (by kernel_rfl) <| .cons (by kernel_rfl) <| .cons (by kernel_rfl) <| .cons (by kernel_rfl) <| .cons (by kernel_rfl) <| .cons (by kernel_rfl) <| .nil)) <| .cons (AllM.at (.cons (by kernel_rfl) <| .cons (by kernel_rfl) <| .cons (by kernel_rfl) <| .cons (by kernel_rfl) <| .cons (by kernel_rfl) <| .cons (by kernel_rfl) <| .cons (by kernel_rfl) <| .cons (by kernel_rfl) <| .cons (by kernel_rfl) <| .cons (by kernel_rfl) <| .cons (by kernel_rfl) <| .cons (by kernel_rfl) <| .cons (by kernel_rfl) <| .cons (by kernel_rfl) <| .cons (by kernel_rfl) <| .cons (by kernel_rfl) <| .cons (by kernel_rfl) <| .cons (by kernel_rfl) <| .cons (by kernel_rfl) <| .cons (by kernel_rfl) <| .nil)) <| .cons (AllM.at (.cons (by kernel_rfl) <| .cons (by kernel_rfl) <| .cons (by kernel_rfl) <| .cons (by kernel_rfl) <| .cons (by kernel_rfl) <| .cons (by kernel_rfl) <| .cons (by kernel_rfl) <| .cons (by kernel_rfl) <| .cons (by kernel_rfl) <| .cons (by kernel_rfl) <| .cons (by kernel_rfl) <| .cons (by kernel_rfl) <| .cons (by kernel_rfl) <| .cons (by kernel_rfl) <| .cons (by kernel_rfl) <| .cons (by kernel_rfl) <| .cons (by kernel_rfl) <| .cons (by kernel_rfl) <| .cons (by kernel_rfl) <| .cons (by kernel_rfl) <| .nil)) <| .cons (AllM.at (.cons (by kernel_rfl) <| .cons (by kernel_rfl) <| .cons (by kernel_rfl) <| .cons (by kernel_rfl) <| .cons (by kernel_rfl) <| .cons (by kernel_rfl) <| .cons (by kernel_rfl) <| .cons (by kernel_rfl) <| .cons (by kernel_rfl) <| .cons (by kernel_rfl) <| .cons (by kernel_rfl) <| .cons (by kernel_rfl) <| .cons (by kernel_rfl) <| .cons (by kernel_rfl) <| .cons (by kernel_rfl) <| .cons (by kernel_rfl) <| .cons (by kernel_rfl) <| .cons (by kernel_rfl) <| .cons (by kernel_rfl) <| .cons (by kernel_rfl) <| .nil)) <| .cons (AllM.at (.cons (by kernel_rfl) <| .cons (by kernel_rfl) <| .cons (by kernel_rfl) <| .cons (by kernel_rfl) <| .cons (by kernel_rfl) <| .cons (by kernel_rfl) <| .cons (by kernel_rfl) <| .cons (by kernel_rfl) <| .cons (by kernel_rfl) <| .cons (by kernel_rfl) <| .cons (by kernel_rfl) <| .cons (by kernel_rfl) <| .cons (by kernel_rfl) <| .cons (by kernel_rfl) <| .cons (by kernel_rfl) <| .cons (by kernel_rfl) <| .cons (by kernel_rfl) <| .cons (by kernel_rfl) <| .cons (by kernel_rfl) <| .cons (by kernel_rfl) <| .nil)) <| .cons (AllM.at (.cons (by kernel_rfl) <| .cons (by kernel_rfl) <| .cons (by kernel_rfl) <| .cons (by kernel_rfl) <| .cons (by kernel_rfl) <| .cons (by kernel_rfl) <| .cons (by kernel_rfl) <| .cons (by kernel_rfl) <| .cons (by kernel_rfl) <| .cons (by kernel_rfl) <| .cons (by kernel_rfl) <| .cons (by kernel_rfl) <| .cons (by kernel_rfl) <| .cons (by kernel_rfl) <| .cons (by kernel_rfl) <| .cons (by kernel_rfl) <| .cons (by kernel_rfl) <| .cons (by kernel_rfl) <| .cons (by kernel_rfl) <| .cons (by kernel_rfl) <| .nil)) <| .cons (AllM.at (.cons (by kernel_rfl) <| .cons (by kernel_rfl) <| .cons (by kernel_rfl) <| .cons (by kernel_rfl) <| .cons (by kernel_rfl) <| .cons (by kernel_rfl) <| .cons (by kernel_rfl) <| .cons (by kernel_rfl) <| .cons (by kernel_rfl) <| .cons (by kernel_rfl) <| .cons (by kernel_rfl) <| .cons (by kernel_rfl) <| .cons (by kernel_rfl) <| .cons (by kernel_rfl) <| .cons (by kernel_rfl) <| .cons (by kernel_rfl) <| .cons (by kernel_rfl) <| .cons (by kernel_rfl) <| .cons (by kernel_rfl) <| .cons (by kernel_rfl) <| .nil)) <| .cons (AllM.at (.cons (by kernel_rfl) <| .cons (by kernel_rfl) <| .cons (by kernel_rfl) <| .cons (by kernel_rfl) <| .cons (by kernel_rfl) <| .cons (by kernel_rfl) <| .cons (by kernel_rfl) <| .cons (by kernel_rfl) <| .cons (by kernel_rfl) <| .cons (by kernel_rfl) <| .cons (by kernel_rfl) <| .cons (by kernel_rfl) <| .cons (by kernel_rfl) <| .cons (by kernel_rfl) <| .cons (by kernel_rfl) <| .cons (by kernel_rfl) <| .cons (by kernel_rfl) <| .cons (by kernel_rfl) <| .cons (by kernel_rfl) <| .cons (by kernel_rfl) <| .nil)) <| .nil)
theorem pairR' {p h x : P} (hp : p ∈ VP) (hh : h ∈ VH) (e : bo p h = some x) : isS (repr1 (twi x)) = true ∧ (fst1 "no works: " "" (twi x)).isSome = true := by
  have q := pairM p hp h hh
  unfold msgB at q
  rw [e] at q
  exact Bool.and_eq_true_iff.mp q
/-- its text can be made, and stands in a message -/
theorem says_ok {p h t r : P} (fr : FR p h t r) : isS (repr1 r) = true ∧ (r = .non ∨ ((fst1 "no works: " "" r).isSome = true ∧ ∃ xs, r = .tup xs)) := by
  cases fr with
  | pl _ => exact ⟨by kernel_rfl, .inr ⟨by kernel_rfl, _, rfl⟩⟩
  | ha _ _ => exact ⟨by kernel_rfl, .inr ⟨by kernel_rfl, _, rfl⟩⟩
  | tw hp hh e =>
    obtain ⟨q1, q2⟩ := pairR' hp hh e
    exact ⟨q1, .inr ⟨q2, _, rfl⟩⟩
  | ok _ _ _ _ => exact ⟨by kernel_rfl, .inl rfl⟩
  | ta _ _ _ _ => exact ⟨by kernel_rfl, .inr ⟨by kernel_rfl, _, rfl⟩⟩
end Lw28
namespace Lw28
open PySem Mn
theorem lc_ex {s : Ev} {L : Mn.Loc} {i : Nat} {el : Mn.E} {Q : P → Prop} {S : Sto} (hi : i < L.length) : ∀ {ps : List P}, (∀ p ∈ ps, ∃ x, s.e el (setL L i (.p p)) S = .ok (.p x) S ∧ Q x) → ∃ xs, Mn.lcP s L (.n i) none el ps S = .ok xs S ∧ xs.length = ps.length ∧ ∀ x ∈ xs, Q x
  | [], _ => ⟨[], rfl, rfl, fun _ h => by cases h⟩
  | p :: ps, h => by
    obtain ⟨x, e, hq⟩ := h p List.mem_cons_self
    obtain ⟨xs, e2, hl, hqs⟩ := lc_ex hi (Q := Q) fun q hq => h q (List.mem_cons_of_mem _ hq)
    refine ⟨x :: xs, ?_, congrArg (· + 1) hl, fun y hy => ?_⟩
    · rw [q_lc1]
      have ea : asg (.n i) (.p p) L = some (setL L i (.p p)) := by
        unfold asg
        rw [if_pos hi]
      rw [ea]
      dsimp only
      rw [e, q_ok]
      dsimp only
      rw [e2, q_ok]
    · rcases List.mem_cons.mp hy with rfl | hy
      · exact hq
      · exact hqs y hy
/-- a comprehension over data, as a list -/
theorem lcEx {cal : Nat → List D → Sto → Mn.R D} {fr n : Nat} {L : Mn.Loc} {S : Sto} {i : Nat} {kk : Sk} {es : List Mn.E} {ds : List D} {ps : List P} {el : Mn.E} {Q : P → Prop} (h1 : evs (ev G cal fr (n + 1)) es L S = .ok ds S) (h2 : walkR kk ds S = .ok ps S) (hi : i < L.length) (hl : ps.length < 100)
    (h : ∀ p ∈ ps, ∃ x, (ev G cal fr (n + 1)).e el (setL (wipeL L [i]) i (.p p)) S = .ok (.p x) S ∧ Q x) : ∃ xs, (ev G cal fr (n + 2)).e (.lc false [i] (.n i) kk es none el) L S = .ok (.p (.lst xs)) S ∧ xs.length = ps.length ∧ ∀ x ∈ xs, Q x := by
  have hi' : i < (wipeL L [i]).length := by
    show i < ((wipeL L []).set i none).length
    rw [List.length_set]
    exact hi
  obtain ⟨xs, e, l, q⟩ := lc_ex hi' h
  refine ⟨xs, ?_, l, q⟩
  rw [q_evE, q_lc, h1, q_ok, h2, q_ok, e, q_noex, q_ok, if_pos (by rw [l]; exact Nat.lt_trans hl line_big)]
  rfl
/-- columns_of -/
theorem f7 (k : Nat) {rs : List P} {w : Nat} (hl : rs.length < 100) (hw : w < 100) (hr : ∀ r ∈ rs, ∃ es : List P, r = .tup es ∧ es.length = w) : ∃ c : P, evF G (k + 1) 7 [.p (.lst rs), I w] [] = .ok (.p c) [] := by
  have it : walkR .rng1 [I w] [] = .ok (iota 0 w) [] := by
    show lift [] (if inR (w : Int) = true then some (iota 0 (w : Int).toNat) else none) = _
    rw [if_pos (by unfold inR; simp; omega)]
    rfl
  have il : ∀ (n : Nat) (lo : Int), (iota lo n).length = n := fun n => by
    induction n with
    | zero => intro lo; rfl
    | succ n ih => intro lo; exact congrArg (· + 1) (ih (lo + 1))
  have im : ∀ (n : Nat) (lo : Int) (p : P), p ∈ iota lo n → ∃ j : Nat, j < n ∧ p = .int (lo + j) := fun n => by
    induction n with
    | zero => intro lo p h; cases h
    | succ n ih =>
      intro lo p h
      rcases List.mem_cons.mp h with rfl | h
      · exact ⟨0, by omega, by simp⟩
      · obtain ⟨j, h1, rfl⟩ := ih (lo + 1) p h
        exact ⟨j + 1, by omega, by rw [show lo + 1 + (j : Int) = lo + ((j + 1 : Nat) : Int) by omega]⟩
  have el : ∀ p ∈ iota 0 w, ∃ x, (ev G (evF G k) k (N0 + 36 + 1)).e (.bi .tuple [(.lc false [3] (.n 3) .it [(.v 0)] none (.ix (.v 3) (.v 2)))]) (setL (wipeL [some (.p (.lst rs)), some (I w), none, none] [2]) 2 (.p p)) [] = .ok (.p x) [] ∧ True := by
    intro p hp
    obtain ⟨j, hj, rfl⟩ := im w 0 p hp
    have el2 : ∀ r ∈ rs, ∃ x, (ev G (evF G k) k (N0 + 34 + 1)).e (.ix (.v 3) (.v 2)) (setL (wipeL [some (.p (.lst rs)), some (I w), some (.p (.int (0 + (j : Int)))), none] [3]) 3 (.p r)) [] = .ok (.p x) [] ∧ True := by
      intro r hr'
      obtain ⟨es, rfl, hes⟩ := hr r hr'
      have hj' : j < es.length := by rw [hes]; exact hj
      refine ⟨es[j], ?_, trivial⟩
      have e0 : setL (wipeL [some (.p (.lst rs)), some (I w), some (.p (.int (0 + (j : Int)))), none] [3]) 3 (.p (.tup es)) = [some (.p (.lst rs)), some (I w), some (.p (.int (0 + (j : Int)))), some (.p (.tup es))] := rfl
      rw [e0, q_evE, q_ix]
      have ix : ixN es.length (0 + (j : Int)) = some j := by
        unfold ixN
        rw [if_pos (by omega), if_pos (by omega), show (0 + (j : Int)).toNat = j by omega]
      show liftP [] ((ixN es.length (0 + (j : Int))).bind fun j => es[j]?) = _
      rw [ix]
      show liftP [] (es[j]?) = _
      rw [List.getElem?_eq_getElem hj']
      rfl
    obtain ⟨ys, e, _, _⟩ := lcEx (cal := evF G k) (fr := k) (n := N0 + 34) (L := [some (.p (.lst rs)), some (I w), some (.p (.int (0 + (j : Int)))), none]) (S := []) (i := 3) (kk := .it) (es := [(.v 0)]) (ds := [.p (.lst rs)]) (ps := rs) (el := .ix (.v 3) (.v 2)) (Q := fun _ => True) rfl rfl (by show 3 < 4; decide) hl el2
    refine ⟨.tup ys, ?_, trivial⟩
    have e0 : setL (wipeL [some (.p (.lst rs)), some (I w), none, none] [2]) 2 (.p (.int (0 + (j : Int)))) = [some (.p (.lst rs)), some (I w), some (.p (.int (0 + (j : Int)))), none] := rfl
    rw [e0, show N0 + 36 + 1 = N0 + 34 + 2 + 1 from rfl, q_evE, q_bi, q_es, e, q_ok, q_es0, q_ok, q_ok]
    rfl
  obtain ⟨xs, e, _, _⟩ := lcEx (cal := evF G k) (fr := k) (n := N0 + 36) (L := [some (.p (.lst rs)), some (I w), none, none]) (S := []) (i := 2) (kk := .rng1) (es := [(.v 1)]) (ds := [I w]) (ps := iota 0 w) (Q := fun _ => True) rfl it (by show 2 < 4; decide) (by rw [il]; exact hw) el
  refine ⟨.tup xs, ?_⟩
  rw [runF k 7 [.p (.lst rs), I w] [] g7 rfl rfl]
  show endR _ (evCs (ev G (evF G k) k (N0 + 39)) _ _ [.ret (.bi .tuple [(.lc false [2] (.n 2) .rng1 [(.v 1)] none (.bi .tuple [(.lc false [3] (.n 3) .it [(.v 0)] none (.ix (.v 3) (.v 2)))]))])] [some (.p (.lst rs)), some (I w), none, none] []) = _
  rw [q_cons, q_ret, show N0 + 39 = N0 + 36 + 2 + 1 from rfl, q_evE, q_bi, q_es, e, q_ok, q_es0, q_ok, q_ok]
  rfl
end Lw28
namespace Lw28
open PySem Mn
theorem seqX {s : Ev} {rs : Option (Nat → P → Option Ex)} {su : Nat → Nat → Option Bool} {c : C} {cs : List C} {L L1 : Mn.Loc} {S S1 : Sto} {x : Ex} (h : evC s rs su c L S = .ex x L1 S1) : evCs s rs su (c :: cs) L S = .ex x L1 S1 := by
  rw [q_cons, h]
  rfl
/-! ### Works.__init__ -/
theorem runI (k i : Nat) (ds : List D) (S : Sto) (d : Def) (c : Nat) (fl : List (List Str × List Mn.E)) (h : G.ds[i]? = some d) (hl : ds.length = d.np) (hf : d.fl = some (c, fl)) : evF G (k + 1) i ds S = iniR k c (ev G (evF G k) k (N0 + 40)) fl (evCs (ev G (evF G k) k (N0 + 39)) (rsF G k) G.su d.b (some .me :: (ds.map some ++ List.replicate (d.nl - d.np) none)) S) := by
  unfold evF
  rw [h]
  dsimp only
  rw [if_pos hl, hf]
  rfl
def st27 (i : Nat) : C := g27.b.getD i .bad
theorem s270 (k : Nat) {p h t r : P} (q : evF G (k + 6) 10 [.p p, .p h, .p t] [] = .ok (.p r) []) : EX (k + 6) (st27 0) [some .me, V p, V h, V t, none, none] = .nx [some .me, V p, V h, V t, V r, none] [] := by
  have q := cr (j := k + 6) (fr := k + 6) (L := [some .me, V p, V h, V t, none, none]) (ps := [p, h, t]) (S := []) q
  show evC _ _ _ (.set 4 (.call 10 [(.v 1), (.v 2), (.v 3)])) _ [] = _
  rw [q_set, show N0 + 39 = N0 + 38 + 1 from rfl, q_evE, q_call]
  show R.fl [some .me, V p, V h, V t, none, none] (callR (evF G (k + 6)) (k + 6) [some .me, V p, V h, V t, none, none] 10 [.p p, .p h, .p t] []) _ = _
  rw [show callR (evF G (k + 6)) (k + 6) [some .me, V p, V h, V t, none, none] 10 [.p p, .p h, .p t] [] = .ok (.p r) [] from q]
  rfl
theorem s271n (k : Nat) (p h t : P) : EX k (st27 1) [some .me, V p, V h, V t, V .non, none] = .nx [some .me, V p, V h, V t, V .non, none] [] := by kernel_rfl
theorem s271 (k : Nat) (p h t r : P) (hr : isNon r = some false) (hm : (fst1 "no works: " "" r).isSome = true) (hs : ∃ xs, r = .tup xs) : EX (k + 2) (st27 1) [some .me, V p, V h, V t, V r, none] = .ex ⟨1, []⟩ [some .me, V p, V h, V t, V r, none] [] := by
  obtain ⟨y, hy⟩ := Option.isSome_iff_exists.mp hm
  obtain ⟨xs, rfl⟩ := hs
  show evC _ _ _ (.ite (.cmp .isn (.v 4) (.k .non)) [(.raise 1 (.fst "no works: " (.v 4) ""))] []) _ [] = _
  have c : cmpR .isn (.p (.tup xs)) (.p .non) [] = .ok (B true) [] := rfl
  have e : (ev G (evF G (k + 2)) (k + 2) (N0 + 39)).t (.cmp .isn (.v 4) (.k .non)) [some .me, V p, V h, V t, V (.tup xs), none] [] = .ok true [] := by
    rw [show N0 + 39 = N0 + 38 + 1 from rfl, q_evT, q_tcmp]
    show (cmpR .isn (.p (.tup xs)) (.p .non) []).bind _ = _
    rw [c, q_ok, q_trub]
  have m : (ev G (evF G (k + 2)) (k + 2) (N0 + 38)).e (.fst "no works: " (.v 4) "") [some .me, V p, V h, V t, V (.tup xs), none] [] = .ok (.p y) [] := by
    show (if Nat.ble ("no works: " : Str).length line then fstR "no works: " "" (.p (.tup xs)) [] else .bad) = _
    rw [if_pos (by decide +kernel)]
    show liftP [] (fst1 "no works: " "" (.tup xs)) = _
    rw [hy]
    rfl
  rw [q_cite, e, q_fl, if_pos rfl, show N0 + 39 = N0 + 38 + 1 from rfl, q_evC, q_cons]
  show (evC (ev G (evF G (k + 2)) (k + 2) (N0 + 38)) (some G.rs) G.su (.raise 1 (.fst "no works: " (.v 4) "")) _ []).then _ = _
  show (R.fl _ ((ev G (evF G (k + 2)) (k + 2) (N0 + 38)).e (.fst "no works: " (.v 4) "") _ []) _).then _ = _
  rw [m]
  rfl
theorem f27bad (k : Nat) {p h t r : P} (ht : TV t) (fr : FR p h t r) (hr : isNon r = some false) : evF G (k + 7) 27 [.p p, .p h, .p t] [] = .ex ⟨1, []⟩ [] := by
  obtain ⟨_, z | ⟨m, x⟩⟩ := says_ok fr
  · rw [z] at hr
    cases hr
  · rw [runI (k + 6) 27 [.p p, .p h, .p t] [] g27 _ _ rfl rfl rfl]
    have e : evCs (ev G (evF G (k + 6)) (k + 6) (N0 + 39)) (rsF G (k + 6)) G.su [st27 0, st27 1] [some .me, V p, V h, V t, none, none] [] = .ex ⟨1, []⟩ [some .me, V p, V h, V t, V r, none] [] := by
      refine seq (s270 k (f10 k ht fr)) ?_
      exact seqX (s271 (k + 4) p h t r hr m x)
    show iniR _ _ _ _ (evCs _ _ _ [st27 0, st27 1] [some .me, V p, V h, V t, none, none] []) = _
    rw [e]
    rfl
/-- a right table -/
theorem tab_of {h w : Nat} {t : P} (ht : TV t) (b : tabB h w t = true) : ∃ rs, t = .tup rs ∧ rs.length < 100 ∧ ∀ r ∈ rs, ∃ es : List P, r = .tup es ∧ es.length = w := by
  rcases ht with (rfl | rfl | rfl) | ⟨rs, he, hl, rfl | rfl⟩
  · cases b
  · cases b
  · cases b
  · refine ⟨rs, rfl, hl, fun r hr => ?_⟩
    have b : (decide (rs.length = h) && rs.all (rowB w)) = true := b
    rw [Bool.and_eq_true] at b
    have z := List.all_eq_true.mp b.2 r hr
    unfold rowB at z
    split at z
    · rename_i es
      rw [Bool.and_eq_true] at z
      exact ⟨es, rfl, of_decide_eq_true z.1⟩
    · cases z
  · cases b
theorem smallP : ∀ v ∈ VP, (itemsP v).length ≤ 5 := AllM.at (.cons (by decide) <| .cons (by decide) <| .cons (by decide) <| .cons (by decide) <| .cons (by decide) <| .cons (by decide) <| .cons (by decide) <| .cons (by decide) <| .cons (by decide) <| .cons (by decide) <| .cons (by decide) <| .cons (by decide) <| .cons (by decide) <| .cons (by decide) <| .cons (by decide) <| .cons (by decide) <| .cons (by decide) <| .cons (by decide) <| .cons (by decide) <| .nil)
theorem smallH : ∀ v ∈ VH, (itemsP v).length ≤ 4 := AllM.at (.cons (by decide) <| .cons (by decide) <| .cons (by decide) <| .cons (by decide) <| .cons (by decide) <| .cons (by decide) <| .cons (by decide) <| .cons (by decide) <| .cons (by decide) <| .cons (by decide) <| .cons (by decide) <| .cons (by decide) <| .cons (by decide) <| .cons (by decide) <| .cons (by decide) <| .cons (by decide) <| .cons (by decide) <| .cons (by decide) <| .cons (by decide) <| .cons (by decide) <| .nil)
theorem e_len {cal : Nat → List D → Sto → Mn.R D} {fr n i : Nat} {L : Mn.Loc} {x : P} {m : Nat} (hv : L[i]? = some (V x)) (hl : biR .len [.p x] [] = .ok (I m) []) : (ev G cal fr (n + 2)).e (.bi .len [(.v i)]) L [] = .ok (I m) [] := by
  rw [q_evE, q_bi, q_es, q_evE, q_v, hv, q_ok, q_es0, q_ok, q_ok, hl]
theorem cut_len {es : List P} {a c : Nat} (h : es.length = a + c) : (cut es (some (a : Int)) none).length = c := by
  have e1 : clamp es.length 0 (some (a : Int)) = a := by
    show (if (a : Int) < 0 then ((a : Int) + (es.length : Int)).toNat else min (a : Int).toNat es.length) = a
    rw [if_neg (by omega), Int.toNat_natCast]
    omega
  have e2 : clamp es.length es.length none = es.length := rfl
  unfold cut
  rw [e1, e2, List.length_take, List.length_drop]
  omega
def lc3 : Mn.E := .lc false [5] (.n 5) .it [(.v 3)] none (.sl (.v 5) none (some (.bi .len [(.v 1)])))
def lc4 : Mn.E := .lc false [5] (.n 5) .it [(.v 3)] none (.sl (.v 5) (some (.bi .len [(.v 1)])) none)
theorem e_lc3 {cal : Nat → List D → Sto → Mn.R D} {fr : Nat} {p h : P} {rs : List P} {a w : Nat} (lp : biR .len [.p p] [] = .ok (I a) []) (hl : rs.length < 100) (hr : ∀ r ∈ rs, ∃ es : List P, r = .tup es ∧ es.length = w) : ∃ xs, (ev G cal fr (N0 + 37 + 2)).e lc3 [some .me, V p, V h, V (.tup rs), V .non, none] [] = .ok (.p (.lst xs)) [] ∧ xs.length = rs.length ∧ ∀ x ∈ xs, True := by
  refine lcEx (Q := fun _ => True) (ds := [.p (.tup rs)]) (ps := rs) rfl rfl (by show 5 < 6; decide) hl fun r hr' => ?_
  obtain ⟨es, rfl, hes⟩ := hr r hr'
  refine ⟨.tup (cut es none (some (a : Int))), ?_, trivial⟩
  have e0 : setL (wipeL [some .me, V p, V h, V (.tup rs), V .non, none] [5]) 5 (.p (.tup es)) = [some .me, V p, V h, V (.tup rs), V .non, V (.tup es)] := rfl
  have e1 : (ev G cal fr (N0 + 35 + 2)).e (.bi .len [(.v 1)]) [some .me, V p, V h, V (.tup rs), V .non, V (.tup es)] [] = .ok (I a) [] := e_len rfl lp
  rw [e0, show N0 + 37 + 1 = N0 + 35 + 2 + 1 from rfl, q_evE]
  show (((ev G cal fr (N0 + 35 + 2)).e (.bi .len [(.v 1)]) [some .me, V p, V h, V (.tup rs), V .non, V (.tup es)] []).bind fun d S1 => (match d with
    | .p (.int i) => .ok (some i) S1
    | _ => .bad : Mn.R (Option Int))).bind _ = _
  rw [e1]
  rfl
theorem e_lc4 {cal : Nat → List D → Sto → Mn.R D} {fr : Nat} {p h : P} {rs : List P} {a c : Nat} (lp : biR .len [.p p] [] = .ok (I a) []) (hl : rs.length < 100) (hr : ∀ r ∈ rs, ∃ es : List P, r = .tup es ∧ es.length = a + c) : ∃ xs, (ev G cal fr (N0 + 37 + 2)).e lc4 [some .me, V p, V h, V (.tup rs), V .non, none] [] = .ok (.p (.lst xs)) [] ∧ xs.length = rs.length ∧ ∀ x ∈ xs, ∃ es : List P, x = .tup es ∧ es.length = c := by
  refine lcEx (Q := fun x => ∃ es : List P, x = .tup es ∧ es.length = c) (ds := [.p (.tup rs)]) (ps := rs) rfl rfl (by show 5 < 6; decide) hl fun r hr' => ?_
  obtain ⟨es, rfl, hes⟩ := hr r hr'
  refine ⟨.tup (cut es (some (a : Int)) none), ?_, _, rfl, cut_len hes⟩
  have e0 : setL (wipeL [some .me, V p, V h, V (.tup rs), V .non, none] [5]) 5 (.p (.tup es)) = [some .me, V p, V h, V (.tup rs), V .non, V (.tup es)] := rfl
  have e1 : (ev G cal fr (N0 + 35 + 2)).e (.bi .len [(.v 1)]) [some .me, V p, V h, V (.tup rs), V .non, V (.tup es)] [] = .ok (I a) [] := e_len rfl lp
  rw [e0, show N0 + 37 + 1 = N0 + 35 + 2 + 1 from rfl, q_evE]
  show (((ev G cal fr (N0 + 35 + 2)).e (.bi .len [(.v 1)]) [some .me, V p, V h, V (.tup rs), V .non, V (.tup es)] []).bind fun d S1 => (match d with
    | .p (.int i) => .ok (some i) S1
    | _ => .bad : Mn.R (Option Int))).bind _ = _
  rw [e1]
  rfl
abbrev NS : List Str := ["own_places", "own_hands", "own_table", "own_width", "own_wide", "own_free", "own_columns"]
theorem f27ok (k : Nat) {p h t : P} (ht : TV t) (fr : FR p h t .non) : ∃ ns ps, evF G (k + 7) 27 [.p p, .p h, .p t] [] = .ok (.p (.ins 2 ns ps)) [] := by
  have fr0 := fr
  obtain ⟨hp, hh, b⟩ : p ∈ VP ∧ h ∈ VH ∧ tabB (itemsP p).length ((itemsP p).length + (itemsP h).length) t = true := by
    generalize e : P.non = r at fr
    cases fr with
    | ok a b _ d => exact ⟨a, b, d⟩
    | pl _ => cases e
    | ha _ _ => cases e
    | tw _ _ _ => cases e
    | ta _ _ _ _ => cases e
  obtain ⟨rs, rfl, hl, hr⟩ := tab_of ht b
  have lp : biR .len [.p p] [] = .ok (I (itemsP p).length) [] := by
    rw [tupP p hp]
    rfl
  have lh : biR .len [.p h] [] = .ok (I (itemsP h).length) [] := by
    rw [tupH h hh]
    rfl
  have hc : (itemsP h).length ≤ 4 := smallH h hh
  obtain ⟨x3, g3, _, _⟩ := e_lc3 (cal := evF G (k + 6)) (fr := k + 6) (h := h) lp hl hr
  obtain ⟨x4, g4, l4, q4⟩ := e_lc4 (cal := evF G (k + 6)) (fr := k + 6) (h := h) lp hl hr
  obtain ⟨x5, g5'⟩ := f7 (k + 5) (rs := x4) (w := (itemsP h).length) (by rw [l4]; exact hl) (by omega) q4
  have c5 := cr (j := k + 6) (fr := k + 6) (L := [some .me, V p, V h, V (.tup rs), V .non, none]) (ps := [.lst x4, .int (itemsP h).length]) (S := []) g5'
  have l1 : (ev G (evF G (k + 6)) (k + 6) (N0 + 38 + 2)).e (.bi .len [(.v 1)]) [some .me, V p, V h, V (.tup rs), V .non, none] [] = .ok (I (itemsP p).length) [] := e_len rfl lp
  have l1' : (ev G (evF G (k + 6)) (k + 6) (N0 + 37 + 2)).e (.bi .len [(.v 1)]) [some .me, V p, V h, V (.tup rs), V .non, none] [] = .ok (I (itemsP p).length) [] := e_len rfl lp
  have l2' : (ev G (evF G (k + 6)) (k + 6) (N0 + 37 + 2)).e (.bi .len [(.v 2)]) [some .me, V p, V h, V (.tup rs), V .non, none] [] = .ok (I (itemsP h).length) [] := e_len rfl lh
  have v2 : evs (ev G (evF G (k + 6)) (k + 6) (N0 + 40)) [(.bi .len [(.v 1)]), (.bin .add (.bi .len [(.v 1)]) (.bi .len [(.v 2)]))] [some .me, V p, V h, V (.tup rs), V .non, none] [] = .ok [I (itemsP p).length, I ((itemsP p).length + (itemsP h).length)] [] := by
    rw [q_es, show N0 + 40 = N0 + 38 + 2 from rfl, l1, q_ok, q_es, show N0 + 38 + 2 = N0 + 37 + 2 + 1 from rfl, q_evE, q_bin, l1', q_ok, l2', q_ok]
    rfl
  have v3 : evs (ev G (evF G (k + 6)) (k + 6) (N0 + 40)) [(.bi .tuple [lc3])] [some .me, V p, V h, V (.tup rs), V .non, none] [] = .ok [.p (.tup x3)] [] := by
    rw [q_es, show N0 + 40 = N0 + 37 + 2 + 1 from rfl, q_evE, q_bi, q_es, g3, q_ok, q_es0, q_ok, q_ok]
    rfl
  have v4 : evs (ev G (evF G (k + 6)) (k + 6) (N0 + 40)) [(.call 7 [lc4, (.bi .len [(.v 2)])])] [some .me, V p, V h, V (.tup rs), V .non, none] [] = .ok [.p x5] [] := by
    rw [q_es, show N0 + 40 = N0 + 37 + 2 + 1 from rfl, q_evE, q_call, q_es, g4, q_ok, q_es, l2', q_ok, q_es0, q_ok, q_ok, q_ok]
    show (callR (evF G (k + 6)) (k + 6) [some .me, V p, V h, V (.tup rs), V .non, none] 7 (List.map D.p [.lst x4, .int (itemsP h).length]) []).bind _ = _
    rw [c5]
    rfl
  have e : evCs (ev G (evF G (k + 6)) (k + 6) (N0 + 39)) (rsF G (k + 6)) G.su [st27 0, st27 1] [some .me, V p, V h, V (.tup rs), none, none] [] = .nx [some .me, V p, V h, V (.tup rs), V .non, none] [] :=
    seq (s270 k (f10 k ht fr0)) (seq (s271n _ _ _ _) rfl)
  refine ⟨NS, [p, h, .tup rs] ++ [.int (itemsP p).length, .int ((itemsP p).length + (itemsP h).length)] ++ [.tup x3] ++ [x5], ?_⟩
  · rw [runI (k + 6) 27 [.p p, .p h, .p (.tup rs)] [] g27 _ _ rfl rfl rfl]
    show iniR _ _ _ _ (evCs _ _ _ [st27 0, st27 1] [some .me, V p, V h, V (.tup rs), none, none] []) = _
    rw [e]
    show (match iniF (ev G (evF G (k + 6)) (k + 6) (N0 + 40)) [some .me, V p, V h, V (.tup rs), V .non, none] [(["own_places", "own_hands", "own_table"], [(.v 1), (.v 2), (.v 3)]), (["own_width", "own_wide"], [(.bi .len [(.v 1)]), (.bin .add (.bi .len [(.v 1)]) (.bi .len [(.v 2)]))]), (["own_free"], [(.bi .tuple [lc3])]), (["own_columns"], [(.call 7 [lc4, (.bi .len [(.v 2)])])])] [] [] [] with
      | .ok p S1 => (.ok (.p (insOf 2 p)) (san (k + 6) S1) : Mn.R D)
      | .ex x S1 => .ex x (san (k + 6) S1)
      | .bad => .bad) = _
    have r1 : iniF (ev G (evF G (k + 6)) (k + 6) (N0 + 40)) [some .me, V p, V h, V (.tup rs), V .non, none] [(["own_places", "own_hands", "own_table"], [(.v 1), (.v 2), (.v 3)]), (["own_width", "own_wide"], [(.bi .len [(.v 1)]), (.bin .add (.bi .len [(.v 1)]) (.bi .len [(.v 2)]))]), (["own_free"], [(.bi .tuple [lc3])]), (["own_columns"], [(.call 7 [lc4, (.bi .len [(.v 2)])])])] [] [] [] = .ok (.ins 0 NS ([p, h, .tup rs] ++ [.int (itemsP p).length, .int ((itemsP p).length + (itemsP h).length)] ++ [.tup x3] ++ [x5])) [] := by
      have v1 : evs (ev G (evF G (k + 6)) (k + 6) (N0 + 40)) [(.v 1), (.v 2), (.v 3)] [some .me, V p, V h, V (.tup rs), V .non, none] [] = .ok [.p p, .p h, .p (.tup rs)] [] := rfl
      unfold iniF
      rw [v1, q_ok]
      show iniF _ _ _ _ _ _ = _
      unfold iniF
      rw [v2, q_ok]
      show iniF _ _ _ _ _ _ = _
      unfold iniF
      rw [v3, q_ok]
      show iniF _ _ _ _ _ _ = _
      unfold iniF
      rw [v4, q_ok]
      rfl
    rw [r1]
    rfl
end Lw28
namespace Lw28
open PySem Mn
theorem mk2 : G.mkt 2 = some 27 := by kernel_rfl
theorem su11 : G.su 1 1 = some true := by kernel_rfl
/-- _law_made -/
theorem f24 (k : Nat) {p h t r : P} (ht : TV t) (fr : FR p h t r) : ∃ b : Bool, isNon r = some b ∧ evF G (k + 8) 24 [.p p, .p h, .p t] [] = .ok (B b) [] := by
  have run : ∀ b, evC (ev G (evF G (k + 7)) (k + 7) (N0 + 39)) (rsF G (k + 7)) G.su (.tr [(.ret (.isc 2 (.mk 2 [(.v 0), (.v 1), (.v 2)])))] [(1, .ret (.bl false))]) [V p, V h, V t] [] = .rt (.p (.bl b)) [] → evF G (k + 8) 24 [.p p, .p h, .p t] [] = .ok (B b) [] := fun b q => by
    rw [runF (k + 7) 24 [.p p, .p h, .p t] [] g24 rfl rfl]
    show endR _ (evCs _ _ _ [.tr _ _] [V p, V h, V t] []) = _
    rw [q_cons, q]
    rfl
  have a0 : resDs (k + 7) [V p, V h, V t] [.p p, .p h, .p t] = some [.p p, .p h, .p t] := rfl
  have mk : ∀ (R : Mn.R D), evF G (k + 7) 27 [.p p, .p h, .p t] [] = R → (∀ x, R = .ok (.p x) [] ∨ True) → (ev G (evF G (k + 7)) (k + 7) (N0 + 37)).e (.mk 2 [(.v 0), (.v 1), (.v 2)]) [V p, V h, V t] [] = callD (evF G (k + 7)) 27 [.p p, .p h, .p t] [] := fun R _ _ => by
    show mkR (evF G (k + 7)) (k + 7) G.mkt [V p, V h, V t] 2 [.p p, .p h, .p t] [] = _
    unfold mkR
    rw [mk2]
    dsimp only
    unfold callR
    rw [a0]
  cases hn : isNon r with
  | none =>
    exfalso
    cases fr <;> cases hn
  | some b =>
    refine ⟨b, rfl, run b ?_⟩
    cases b with
    | true =>
      have e : r = .non := by cases r <;> first | rfl | cases hn
      subst e
      obtain ⟨ns, ps, q⟩ := f27ok k ht fr
      have cd : callD (evF G (k + 7)) 27 [.p p, .p h, .p t] [] = .ok (.p (.ins 2 ns ps)) [] := by
        unfold callD
        rw [if_pos (show [D.p p, D.p h, D.p t].all aloD = true from rfl), q]
      have m := mk _ q (fun _ => .inr trivial)
      rw [cd] at m
      have i : (ev G (evF G (k + 7)) (k + 7) (N0 + 38)).e (.isc 2 (.mk 2 [(.v 0), (.v 1), (.v 2)])) [V p, V h, V t] [] = .ok (B true) [] := by
        show ((ev G (evF G (k + 7)) (k + 7) (N0 + 37)).e (.mk 2 [(.v 0), (.v 1), (.v 2)]) [V p, V h, V t] []).bind (fun x S1 => iscR G.mkt 2 x S1) = _
        rw [m, q_ok]
        show evB (isc1 G.mkt 2 (.ins 2 ns ps)) [] = _
        show evB (if (G.mkt 2).isSome then some (Nat.beq 2 2) else none) [] = _
        rw [mk2]
        rfl
      have c : (ev G (evF G (k + 7)) (k + 7) (N0 + 39)).c [(.ret (.isc 2 (.mk 2 [(.v 0), (.v 1), (.v 2)])))] [V p, V h, V t] [] = .rt (B true) [] := by
        rw [show N0 + 39 = N0 + 38 + 1 from rfl, q_evC, q_cons, q_ret, i, q_fl, q_tht]
      show (match (ev G (evF G (k + 7)) (k + 7) (N0 + 39)).c [(.ret (.isc 2 (.mk 2 [(.v 0), (.v 1), (.v 2)])))] [V p, V h, V t] [] with
        | .ex x L1 S1 => handle G.su x L1 [(1, .ret (.bl false))] S1
        | r => r) = _
      rw [c]
    | false =>
      have q := f27bad k ht fr hn
      have cd : callD (evF G (k + 7)) 27 [.p p, .p h, .p t] [] = .ex ⟨1, []⟩ [] := by
        unfold callD
        rw [if_pos (show [D.p p, D.p h, D.p t].all aloD = true from rfl), q]
      have m := mk _ q (fun _ => .inr trivial)
      rw [cd] at m
      have i : (ev G (evF G (k + 7)) (k + 7) (N0 + 38)).e (.isc 2 (.mk 2 [(.v 0), (.v 1), (.v 2)])) [V p, V h, V t] [] = .ex ⟨1, []⟩ [] := by
        show ((ev G (evF G (k + 7)) (k + 7) (N0 + 37)).e (.mk 2 [(.v 0), (.v 1), (.v 2)]) [V p, V h, V t] []).bind (fun x S1 => iscR G.mkt 2 x S1) = _
        rw [m]
        rfl
      have c : (ev G (evF G (k + 7)) (k + 7) (N0 + 39)).c [(.ret (.isc 2 (.mk 2 [(.v 0), (.v 1), (.v 2)])))] [V p, V h, V t] [] = .ex ⟨1, []⟩ [V p, V h, V t] [] := by
        rw [show N0 + 39 = N0 + 38 + 1 from rfl, q_evC, q_cons, q_ret, i]
        rfl
      show (match (ev G (evF G (k + 7)) (k + 7) (N0 + 39)).c [(.ret (.isc 2 (.mk 2 [(.v 0), (.v 1), (.v 2)])))] [V p, V h, V t] [] with
        | .ex x L1 S1 => handle G.su x L1 [(1, .ret (.bl false))] S1
        | r => r) = _
      rw [c]
      show (match G.su 1 1 with
        | some true => (.rt (.p (.bl false)) [] : Fl)
        | some false => handle G.su ⟨1, []⟩ [V p, V h, V t] [] []
        | none => .bad) = _
      rw [su11]
end Lw28
namespace Lw28
open PySem Mn
/-! ### the drawn works -/
def SM : List P := [.tup [.int 0, .int 1], .tup [.int 0, .int 1], .tup [.int 0, .int 1], .tup [.int 1, .int 1], .tup [.int 1, .int 1], .tup [.int (-1), .int 1], .tup [.int 2, .int 1], .tup [.int 1, .int 2]]
theorem smEN : ∀ v ∈ SM, v ∈ EN := AllM.at (.cons (by simp [EN]) <| .cons (by simp [EN]) <| .cons (by simp [EN]) <| .cons (by simp [EN]) <| .cons (by simp [EN]) <| .cons (by simp [EN]) <| .cons (by simp [EN]) <| .cons (by simp [EN]) .nil)
theorem callB_ref {cal : Nat → List D → Sto → Mn.R D} {f n : Nat} {x y : P} {S S' : Sto} (h : cal f [.ref n, .p x] S = .ok (.p y) S') : callB cal f [.ref n, .p x] S = .ok (.p y) S' := by
  show callS cal f [.ref n, .p x] S = _
  unfold callS
  rw [h]
  rfl
/-- a row is drawn -/
theorem drawRow (k fr N : Nat) {n : Nat} {L : Mn.Loc} (h0 : L[0]? = some (some (.ref n))) (h3 : L[3]? = some (V (.lst SM))) (hi : 6 < L.length) : ∀ (j : Nat) (lo : Int) {S : Sto} {m : Nat}, Dc S n m → m + j < 2 ^ 60 →
    ∃ es S', Mn.lcP (ev G (evF G (k + 2)) fr (N + 2)) L (.n 6) none (.callB 13 [(.v 0), (.v 3)]) (iota lo j) S = .ok es S' ∧ es.length = j ∧ (∀ e ∈ es, e ∈ SM) ∧ Dc S' n (m + j)
  | 0, lo, S, m, d, _ => ⟨[], S, rfl, rfl, (fun _ h => nomatch h), d⟩
  | j + 1, lo, S, m, d, hm => by
    obtain ⟨x, S1, hx, r, d1, _⟩ := c22 k S (items := SM) d (by omega) (by decide) (by decide)
    obtain ⟨es, S2, e, hl, hq, d2⟩ := drawRow k fr N h0 h3 hi j (lo + 1) d1 (by omega)
    refine ⟨x :: es, S2, ?_, congrArg (· + 1) hl, fun y hy => ?_, by rw [show m + (j + 1) = m + 1 + j by omega]; exact d2⟩
    · show Mn.lcP _ _ _ _ _ (.int lo :: iota (lo + 1) j) S = _
      rw [q_lc1]
      have ea : asg (.n 6) (.p (.int lo)) L = some (setL L 6 (.p (.int lo))) := by
        unfold asg
        rw [if_pos hi]
      rw [ea]
      dsimp only
      have g0 : (setL L 6 (.p (.int lo)))[0]? = some (some (.ref n)) := by
        unfold setL
        rw [List.getElem?_set_ne (by decide)]
        exact h0
      have g3 : (setL L 6 (.p (.int lo)))[3]? = some (V (.lst SM)) := by
        unfold setL
        rw [List.getElem?_set_ne (by decide)]
        exact h3
      have c : (ev G (evF G (k + 2)) fr (N + 2)).e (.callB 13 [(.v 0), (.v 3)]) (setL L 6 (.p (.int lo))) S = .ok (.p x) S1 := by
        rw [q_evE, q_callB, q_es, q_evE, q_v, g0, q_ok, q_es, q_evE, q_v, g3, q_ok, q_es0, q_ok, q_ok, q_ok]
        exact callB_ref r
      rw [c, q_ok]
      dsimp only
      rw [e, q_ok]
    · rcases List.mem_cons.mp hy with rfl | hy
      · exact hx
      · exact hq y hy
/-- all rows are drawn -/
theorem drawRows (k fr N w : Nat) {n : Nat} {L : Mn.Loc} {a b : Nat} (hab : a + b = w) (hw : w < 100) (h0 : L[0]? = some (some (.ref n))) (h1 : L[1]? = some (V (.int a))) (h2 : L[2]? = some (V (.int b))) (h3 : L[3]? = some (V (.lst SM))) (hi : L.length = 7) : ∀ (j : Nat) (lo : Int) {S : Sto} {m : Nat}, Dc S n m → m + 100 * j < 2 ^ 60 →
    ∃ rs S', Mn.lcP (ev G (evF G (k + 2)) fr (N + 5)) L (.n 5) none (.bi .tuple [(.lc false [6] (.n 6) .rng1 [(.bin .add (.v 1) (.v 2))] none (.callB 13 [(.v 0), (.v 3)]))]) (iota lo j) S = .ok rs S' ∧ rs.length = j ∧ (∀ r ∈ rs, ∃ es : List P, r = .tup es ∧ es.length = w ∧ ∀ e ∈ es, e ∈ SM) ∧ Dc S' n (m + w * j)
  | 0, lo, S, m, d, _ => ⟨[], S, rfl, rfl, (fun _ h => nomatch h), by rw [Nat.mul_zero]; exact d⟩
  | j + 1, lo, S, m, d, hm => by
    have ea : asg (.n 5) (.p (.int lo)) L = some (setL L 5 (.p (.int lo))) := by
      unfold asg
      rw [if_pos (by omega)]
    have g : ∀ i, i ≠ 5 → i ≠ 6 → (wipeL (setL L 5 (.p (.int lo))) [6])[i]? = L[i]? := fun i h5 h6 => by
      show (((setL L 5 (.p (.int lo)))).set 6 none)[i]? = _
      unfold setL
      rw [List.getElem?_set_ne (Ne.symm h6), List.getElem?_set_ne (Ne.symm h5)]
    have gl : 6 < (wipeL (setL L 5 (.p (.int lo))) [6]).length := by
      show 6 < (((setL L 5 (.p (.int lo)))).set 6 none).length
      unfold setL
      rw [List.length_set, List.length_set]
      omega
    obtain ⟨es, S1, e, hl, hq, d1⟩ := drawRow k fr (N + 1) (L := wipeL (setL L 5 (.p (.int lo))) [6]) (by rw [g 0 (by decide) (by decide)]; exact h0) (by rw [g 3 (by decide) (by decide)]; exact h3) gl w 0 d (by omega)
    obtain ⟨rs, S2, e2, hl2, hq2, d2⟩ := drawRows k fr N w hab hw h0 h1 h2 h3 hi j (lo + 1) d1 (by omega)
    refine ⟨.tup es :: rs, S2, ?_, congrArg (· + 1) hl2, fun y hy => ?_, by rw [show m + w * (j + 1) = m + w + w * j by rw [Nat.mul_add]; omega]; exact d2⟩
    · show Mn.lcP _ _ _ _ _ (.int lo :: iota (lo + 1) j) S = _
      rw [q_lc1, ea]
      dsimp only
      have g1 : ∀ i, i ≠ 5 → (setL L 5 (.p (.int lo)))[i]? = L[i]? := fun i h5 => by
        unfold setL
        rw [List.getElem?_set_ne (Ne.symm h5)]
      have ad : (ev G (evF G (k + 2)) fr (N + 3)).e (.bin .add (.v 1) (.v 2)) (setL L 5 (.p (.int lo))) S = .ok (I w) S := by
        rw [q_evE, q_bin, q_evE, q_v, g1 1 (by decide), h1, q_ok, q_evE, q_v, g1 2 (by decide), h2, q_ok]
        show R.ok (I ((a : Int) + (b : Int))) S = _
        rw [show (a : Int) + (b : Int) = (w : Int) by omega]
      have wk : walkR .rng1 [I w] S = .ok (iota 0 w) S := by
        show lift S (if inR (w : Int) = true then some (iota 0 (w : Int).toNat) else none) = _
        rw [if_pos (by unfold inR; simp; omega)]
        rfl
      have lc : (ev G (evF G (k + 2)) fr (N + 4)).e (.lc false [6] (.n 6) .rng1 [(.bin .add (.v 1) (.v 2))] none (.callB 13 [(.v 0), (.v 3)])) (setL L 5 (.p (.int lo))) S = .ok (.p (.lst es)) S1 := by
        rw [show N + 4 = N + 3 + 1 from rfl, q_evE, q_lc, q_es, ad, q_ok, q_es0, q_ok, q_ok, wk, q_ok, show N + 3 = N + 1 + 2 from rfl, e, q_noex, q_ok, if_pos (by rw [hl]; exact Nat.lt_trans hw line_big)]
        rfl
      have c : (ev G (evF G (k + 2)) fr (N + 5)).e (.bi .tuple [(.lc false [6] (.n 6) .rng1 [(.bin .add (.v 1) (.v 2))] none (.callB 13 [(.v 0), (.v 3)]))]) (setL L 5 (.p (.int lo))) S = .ok (.p (.tup es)) S1 := by
        rw [q_evE, q_bi, q_es, lc, q_ok, q_es0, q_ok, q_ok]
        rfl
      rw [c, q_ok]
      dsimp only
      rw [e2, q_ok]
    · rcases List.mem_cons.mp hy with rfl | hy
      · exact ⟨es, rfl, hl, hq⟩
      · exact hq2 y hy
end Lw28
namespace Lw28
open PySem Mn
/-- the drawn names, by how many -/
def nP : P → P
  | .int i => .tup (["p0", "p1", "p2", "p3", "p4"].take i.toNat |>.map fun x => .str (Str.ofString x))
  | _ => .non
def nH : P → P
  | .int i => .tup (["h0", "h1", "h2", "h3", "h4"].take i.toNat |>.map fun x => .str (Str.ofString x))
  | _ => .non
def AS : List P := [.int 1, .int 2, .int 3, .int 4, .int 5]
def BS : List P := [.int 0, .int 1, .int 2, .int 3, .int 4]
def st18 (i : Nat) : C := g18.b.getD i .bad
def wks (p t h : P) : P := .dct [.inr "places", .inr "table", .inr "hands"] [p, t, h]
theorem s180 (k n : Nat) (a b : P) (S : Sto) : evC (ev G (evF G k) k (N0 + 39)) (rsF G k) G.su (st18 0) [some (.ref n), V a, V b, none, none, none, none] S = .nx [some (.ref n), V a, V b, V (.lst SM), none, none, none] S := by kernel_rfl
theorem s182 (k n : Nat) (t : P) (S : Sto) : ∀ a ∈ AS, ∀ b ∈ BS, evC (ev G (evF G k) k (N0 + 39)) (rsF G k) G.su (st18 2) [some (.ref n), V a, V b, V (.lst SM), V t, none, none] S = .rt (.p (wks (nP a) t (nH b))) S :=
  AllM.at (.cons (AllM.at (.cons (by kernel_rfl) <| .cons (by kernel_rfl) <| .cons (by kernel_rfl) <| .cons (by kernel_rfl) <| .cons (by kernel_rfl) <| .nil)) <| .cons (AllM.at (.cons (by kernel_rfl) <| .cons (by kernel_rfl) <| .cons (by kernel_rfl) <| .cons (by kernel_rfl) <| .cons (by kernel_rfl) <| .nil)) <| .cons (AllM.at (.cons (by kernel_rfl) <| .cons (by kernel_rfl) <| .cons (by kernel_rfl) <| .cons (by kernel_rfl) <| .cons (by kernel_rfl) <| .nil)) <| .cons (AllM.at (.cons (by kernel_rfl) <| .cons (by kernel_rfl) <| .cons (by kernel_rfl) <| .cons (by kernel_rfl) <| .cons (by kernel_rfl) <| .nil)) <| .cons (AllM.at (.cons (by kernel_rfl) <| .cons (by kernel_rfl) <| .cons (by kernel_rfl) <| .cons (by kernel_rfl) <| .cons (by kernel_rfl) <| .nil)) <| .nil)
/-- a drawn table -/
def TD (a b : Nat) (t : P) : Prop := ∃ rs, t = .tup rs ∧ rs.length = a ∧ ∀ r ∈ rs, ∃ es : List P, r = .tup es ∧ es.length = a + b ∧ ∀ e ∈ es, e ∈ SM
theorem f18 (k : Nat) {n m a b : Nat} {S : Sto} (ha : (.int a : P) ∈ AS) (hb : (.int b : P) ∈ BS) (h5 : a ≤ 5) (h4 : b ≤ 4) (d : Dc S n m) (hm : m + 1000 < 2 ^ 60) : ∃ t S', evF G (k + 3) 18 [.ref n, I a, I b] S = .ok (.p (wks (nP (.int a)) t (nH (.int b)))) S' ∧ TD a b t ∧ Dc S' n (m + (a + b) * a) := by
  obtain ⟨rs, S1, e, hl, hq, d1⟩ := drawRows k (k + 2) (N0 + 32) (a + b) (n := n) (L := [some (.ref n), V (.int a), V (.int b), V (.lst SM), none, none, none]) (a := a) (b := b) rfl (by omega) rfl rfl rfl rfl rfl a 0 d (by omega)
  refine ⟨.tup rs, S1, ?_, ⟨rs, rfl, hl, hq⟩, d1⟩
  rw [runF (k + 2) 18 [.ref n, I a, I b] S g18 rfl rfl]
  have w1 : evC (ev G (evF G (k + 2)) (k + 2) (N0 + 39)) (rsF G (k + 2)) G.su (st18 1) [some (.ref n), V (.int a), V (.int b), V (.lst SM), none, none, none] S = .nx [some (.ref n), V (.int a), V (.int b), V (.lst SM), V (.tup rs), none, none] S1 := by
    have wk : walkR .rng1 [I a] S = .ok (iota 0 a) S := by
      show lift S (if inR (a : Int) = true then some (iota 0 (a : Int).toNat) else none) = _
      rw [if_pos (by unfold inR; simp; omega)]
      rfl
    have lc : (ev G (evF G (k + 2)) (k + 2) (N0 + 38)).e (.lc false [5] (.n 5) .rng1 [(.v 1)] none (.bi .tuple [(.lc false [6] (.n 6) .rng1 [(.bin .add (.v 1) (.v 2))] none (.callB 13 [(.v 0), (.v 3)]))])) [some (.ref n), V (.int a), V (.int b), V (.lst SM), none, none, none] S = .ok (.p (.lst rs)) S1 := by
      have e0 : wipeL [some (.ref n), V (.int a), V (.int b), V (.lst SM), none, none, none] [5] = [some (.ref n), V (.int a), V (.int b), V (.lst SM), none, none, none] := rfl
      have v1 : evs (ev G (evF G (k + 2)) (k + 2) (N0 + 32 + 5)) [(.v 1)] [some (.ref n), V (.int a), V (.int b), V (.lst SM), none, none, none] S = .ok [I a] S := rfl
      rw [show N0 + 38 = N0 + 32 + 5 + 1 from rfl, q_evE, q_lc, v1, q_ok, wk, q_ok, e0, e, q_noex, q_ok, if_pos (by rw [hl]; exact Nat.lt_trans (by omega) line_big)]
      rfl
    show evC _ _ _ (.set 4 (.bi .tuple [_])) _ S = _
    rw [q_set, show N0 + 39 = N0 + 38 + 1 from rfl, q_evE, q_bi, q_es]
    show R.fl _ ((((ev G (evF G (k + 2)) (k + 2) (N0 + 38)).e (.lc false [5] (.n 5) .rng1 [(.v 1)] none (.bi .tuple [(.lc false [6] (.n 6) .rng1 [(.bin .add (.v 1) (.v 2))] none (.callB 13 [(.v 0), (.v 3)]))])) [some (.ref n), V (.int a), V (.int b), V (.lst SM), none, none, none] S).bind _).bind _) _ = _
    rw [lc]
    rfl
  show endR _ (evCs _ _ _ [st18 0, st18 1, st18 2] [some (.ref n), V (.int a), V (.int b), none, none, none, none] S) = _
  have r : evCs (ev G (evF G (k + 2)) (k + 2) (N0 + 39)) (rsF G (k + 2)) G.su [st18 0, st18 1, st18 2] [some (.ref n), V (.int a), V (.int b), none, none, none, none] S = .rt (.p (wks (nP (.int a)) (.tup rs) (nH (.int b)))) S1 :=
    seq (s180 _ _ _ _ _) (seq w1 (seqR (s182 _ _ _ _ _ ha _ hb)))
  rw [r, q_end, san_pl d1.1]
end Lw28
namespace Lw28
open PySem Mn
def nrP : P → List P
  | .int 1 => [.tup [.str "p0"], .tup [.str "p0"], .tup [.str "p0"], .tup [.str "p0", .str "zz"], .tup [.str "p0"], .lst [.str "p0"], .tup [.str "p0", .str "p0"], .non, .tup [.str "A"], .tup [.int 1], .tup [], .tup [], .tup [.str "a b"], .tup [.str "abcdefghijklm"], .tup [.str "abcdefghijkl"], .str "ab", .tup [.str "p0", .str "a"], .tup [.str "b", .str "a"]]
  | .int 2 => [.tup [.str "p0", .str "p1"], .tup [.str "p0", .str "p1"], .tup [.str "p0", .str "p1"], .tup [.str "p0", .str "p1", .str "zz"], .tup [.str "p1", .str "p0"], .lst [.str "p0", .str "p1"], .tup [.str "p0", .str "p1", .str "p0"], .non, .tup [.str "A"], .tup [.int 1], .tup [.str "p1"], .tup [], .tup [.str "a b"], .tup [.str "abcdefghijklm"], .tup [.str "abcdefghijkl"], .str "ab", .tup [.str "p0", .str "p1", .str "a"], .tup [.str "b", .str "a"]]
  | .int 3 => [.tup [.str "p0", .str "p1", .str "p2"], .tup [.str "p0", .str "p1", .str "p2"], .tup [.str "p0", .str "p1", .str "p2"], .tup [.str "p0", .str "p1", .str "p2", .str "zz"], .tup [.str "p2", .str "p1", .str "p0"], .lst [.str "p0", .str "p1", .str "p2"], .tup [.str "p0", .str "p1", .str "p2", .str "p0"], .non, .tup [.str "A"], .tup [.int 1], .tup [.str "p1", .str "p2"], .tup [], .tup [.str "a b"], .tup [.str "abcdefghijklm"], .tup [.str "abcdefghijkl"], .str "ab", .tup [.str "p0", .str "p1", .str "p2", .str "a"], .tup [.str "b", .str "a"]]
  | .int 4 => [.tup [.str "p0", .str "p1", .str "p2", .str "p3"], .tup [.str "p0", .str "p1", .str "p2", .str "p3"], .tup [.str "p0", .str "p1", .str "p2", .str "p3"], .tup [.str "p0", .str "p1", .str "p2", .str "p3", .str "zz"], .tup [.str "p3", .str "p2", .str "p1", .str "p0"], .lst [.str "p0", .str "p1", .str "p2", .str "p3"], .tup [.str "p0", .str "p1", .str "p2", .str "p3", .str "p0"], .non, .tup [.str "A"], .tup [.int 1], .tup [.str "p1", .str "p2", .str "p3"], .tup [], .tup [.str "a b"], .tup [.str "abcdefghijklm"], .tup [.str "abcdefghijkl"], .str "ab", .tup [.str "p0", .str "p1", .str "p2", .str "p3", .str "a"], .tup [.str "b", .str "a"]]
  | .int 5 => [.tup [.str "p0", .str "p1", .str "p2", .str "p3", .str "p4"], .tup [.str "p0", .str "p1", .str "p2", .str "p3", .str "p4"], .tup [.str "p0", .str "p1", .str "p2", .str "p3", .str "p4"], .tup [.str "p0", .str "p1", .str "p2", .str "p3", .str "p4", .str "zz"], .tup [.str "p4", .str "p3", .str "p2", .str "p1", .str "p0"], .lst [.str "p0", .str "p1", .str "p2", .str "p3", .str "p4"], .tup [.str "p0", .str "p1", .str "p2", .str "p3", .str "p4", .str "p0"], .non, .tup [.str "A"], .tup [.int 1], .tup [.str "p1", .str "p2", .str "p3", .str "p4"], .tup [], .tup [.str "a b"], .tup [.str "abcdefghijklm"], .tup [.str "abcdefghijkl"], .str "ab", .tup [.str "p0", .str "p1", .str "p2", .str "p3", .str "p4", .str "a"], .tup [.str "b", .str "a"]]
  | _ => []
theorem nrP_in : ∀ a ∈ AS, ∀ x ∈ nrP a, x ∈ IP ∨ x ∈ VP := AllM.at (.cons (AllM.at (.cons (.inr (List.mem_of_getElem? (i := 0) rfl)) <| .cons (.inr (List.mem_of_getElem? (i := 0) rfl)) <| .cons (.inr (List.mem_of_getElem? (i := 0) rfl)) <| .cons (.inr (List.mem_of_getElem? (i := 1) rfl)) <| .cons (.inr (List.mem_of_getElem? (i := 0) rfl)) <| .cons (.inl (List.mem_of_getElem? (i := 0) rfl)) <| .cons (.inl (List.mem_of_getElem? (i := 1) rfl)) <| .cons (.inl (List.mem_of_getElem? (i := 2) rfl)) <| .cons (.inl (List.mem_of_getElem? (i := 3) rfl)) <| .cons (.inl (List.mem_of_getElem? (i := 4) rfl)) <| .cons (.inl (List.mem_of_getElem? (i := 5) rfl)) <| .cons (.inl (List.mem_of_getElem? (i := 5) rfl)) <| .cons (.inl (List.mem_of_getElem? (i := 6) rfl)) <| .cons (.inl (List.mem_of_getElem? (i := 7) rfl)) <| .cons (.inr (List.mem_of_getElem? (i := 2) rfl)) <| .cons (.inl (List.mem_of_getElem? (i := 8) rfl)) <| .cons (.inl (List.mem_of_getElem? (i := 9) rfl)) <| .cons (.inl (List.mem_of_getElem? (i := 10) rfl)) <| .nil)) <| .cons (AllM.at (.cons (.inr (List.mem_of_getElem? (i := 8) rfl)) <| .cons (.inr (List.mem_of_getElem? (i := 8) rfl)) <| .cons (.inr (List.mem_of_getElem? (i := 8) rfl)) <| .cons (.inr (List.mem_of_getElem? (i := 9) rfl)) <| .cons (.inl (List.mem_of_getElem? (i := 14) rfl)) <| .cons (.inl (List.mem_of_getElem? (i := 15) rfl)) <| .cons (.inl (List.mem_of_getElem? (i := 16) rfl)) <| .cons (.inl (List.mem_of_getElem? (i := 2) rfl)) <| .cons (.inl (List.mem_of_getElem? (i := 3) rfl)) <| .cons (.inl (List.mem_of_getElem? (i := 4) rfl)) <| .cons (.inr (List.mem_of_getElem? (i := 10) rfl)) <| .cons (.inl (List.mem_of_getElem? (i := 5) rfl)) <| .cons (.inl (List.mem_of_getElem? (i := 6) rfl)) <| .cons (.inl (List.mem_of_getElem? (i := 7) rfl)) <| .cons (.inr (List.mem_of_getElem? (i := 2) rfl)) <| .cons (.inl (List.mem_of_getElem? (i := 8) rfl)) <| .cons (.inl (List.mem_of_getElem? (i := 17) rfl)) <| .cons (.inl (List.mem_of_getElem? (i := 10) rfl)) <| .nil)) <| .cons (AllM.at (.cons (.inr (List.mem_of_getElem? (i := 11) rfl)) <| .cons (.inr (List.mem_of_getElem? (i := 11) rfl)) <| .cons (.inr (List.mem_of_getElem? (i := 11) rfl)) <| .cons (.inr (List.mem_of_getElem? (i := 12) rfl)) <| .cons (.inl (List.mem_of_getElem? (i := 18) rfl)) <| .cons (.inl (List.mem_of_getElem? (i := 19) rfl)) <| .cons (.inl (List.mem_of_getElem? (i := 20) rfl)) <| .cons (.inl (List.mem_of_getElem? (i := 2) rfl)) <| .cons (.inl (List.mem_of_getElem? (i := 3) rfl)) <| .cons (.inl (List.mem_of_getElem? (i := 4) rfl)) <| .cons (.inr (List.mem_of_getElem? (i := 13) rfl)) <| .cons (.inl (List.mem_of_getElem? (i := 5) rfl)) <| .cons (.inl (List.mem_of_getElem? (i := 6) rfl)) <| .cons (.inl (List.mem_of_getElem? (i := 7) rfl)) <| .cons (.inr (List.mem_of_getElem? (i := 2) rfl)) <| .cons (.inl (List.mem_of_getElem? (i := 8) rfl)) <| .cons (.inl (List.mem_of_getElem? (i := 21) rfl)) <| .cons (.inl (List.mem_of_getElem? (i := 10) rfl)) <| .nil)) <| .cons (AllM.at (.cons (.inr (List.mem_of_getElem? (i := 14) rfl)) <| .cons (.inr (List.mem_of_getElem? (i := 14) rfl)) <| .cons (.inr (List.mem_of_getElem? (i := 14) rfl)) <| .cons (.inr (List.mem_of_getElem? (i := 15) rfl)) <| .cons (.inl (List.mem_of_getElem? (i := 22) rfl)) <| .cons (.inl (List.mem_of_getElem? (i := 23) rfl)) <| .cons (.inl (List.mem_of_getElem? (i := 24) rfl)) <| .cons (.inl (List.mem_of_getElem? (i := 2) rfl)) <| .cons (.inl (List.mem_of_getElem? (i := 3) rfl)) <| .cons (.inl (List.mem_of_getElem? (i := 4) rfl)) <| .cons (.inr (List.mem_of_getElem? (i := 16) rfl)) <| .cons (.inl (List.mem_of_getElem? (i := 5) rfl)) <| .cons (.inl (List.mem_of_getElem? (i := 6) rfl)) <| .cons (.inl (List.mem_of_getElem? (i := 7) rfl)) <| .cons (.inr (List.mem_of_getElem? (i := 2) rfl)) <| .cons (.inl (List.mem_of_getElem? (i := 8) rfl)) <| .cons (.inl (List.mem_of_getElem? (i := 25) rfl)) <| .cons (.inl (List.mem_of_getElem? (i := 10) rfl)) <| .nil)) <| .cons (AllM.at (.cons (.inr (List.mem_of_getElem? (i := 17) rfl)) <| .cons (.inr (List.mem_of_getElem? (i := 17) rfl)) <| .cons (.inr (List.mem_of_getElem? (i := 17) rfl)) <| .cons (.inl (List.mem_of_getElem? (i := 26) rfl)) <| .cons (.inl (List.mem_of_getElem? (i := 27) rfl)) <| .cons (.inl (List.mem_of_getElem? (i := 28) rfl)) <| .cons (.inl (List.mem_of_getElem? (i := 29) rfl)) <| .cons (.inl (List.mem_of_getElem? (i := 2) rfl)) <| .cons (.inl (List.mem_of_getElem? (i := 3) rfl)) <| .cons (.inl (List.mem_of_getElem? (i := 4) rfl)) <| .cons (.inr (List.mem_of_getElem? (i := 18) rfl)) <| .cons (.inl (List.mem_of_getElem? (i := 5) rfl)) <| .cons (.inl (List.mem_of_getElem? (i := 6) rfl)) <| .cons (.inl (List.mem_of_getElem? (i := 7) rfl)) <| .cons (.inr (List.mem_of_getElem? (i := 2) rfl)) <| .cons (.inl (List.mem_of_getElem? (i := 8) rfl)) <| .cons (.inl (List.mem_of_getElem? (i := 30) rfl)) <| .cons (.inl (List.mem_of_getElem? (i := 10) rfl)) <| .nil)) <| .nil)
def nrH : P → List P
  | .int 0 => [.tup [], .tup [], .tup [], .tup [.str "zz"], .tup [], .lst [], .tup [], .non, .tup [.str "A"], .tup [.int 1], .tup [], .tup [], .tup [.str "a b"], .tup [.str "abcdefghijklm"], .tup [.str "abcdefghijkl"], .str "ab", .tup [.str "a"], .tup [.str "b", .str "a"]]
  | .int 1 => [.tup [.str "h0"], .tup [.str "h0"], .tup [.str "h0"], .tup [.str "h0", .str "zz"], .tup [.str "h0"], .lst [.str "h0"], .tup [.str "h0", .str "h0"], .non, .tup [.str "A"], .tup [.int 1], .tup [], .tup [], .tup [.str "a b"], .tup [.str "abcdefghijklm"], .tup [.str "abcdefghijkl"], .str "ab", .tup [.str "h0", .str "a"], .tup [.str "b", .str "a"]]
  | .int 2 => [.tup [.str "h0", .str "h1"], .tup [.str "h0", .str "h1"], .tup [.str "h0", .str "h1"], .tup [.str "h0", .str "h1", .str "zz"], .tup [.str "h1", .str "h0"], .lst [.str "h0", .str "h1"], .tup [.str "h0", .str "h1", .str "h0"], .non, .tup [.str "A"], .tup [.int 1], .tup [.str "h1"], .tup [], .tup [.str "a b"], .tup [.str "abcdefghijklm"], .tup [.str "abcdefghijkl"], .str "ab", .tup [.str "h0", .str "h1", .str "a"], .tup [.str "b", .str "a"]]
  | .int 3 => [.tup [.str "h0", .str "h1", .str "h2"], .tup [.str "h0", .str "h1", .str "h2"], .tup [.str "h0", .str "h1", .str "h2"], .tup [.str "h0", .str "h1", .str "h2", .str "zz"], .tup [.str "h2", .str "h1", .str "h0"], .lst [.str "h0", .str "h1", .str "h2"], .tup [.str "h0", .str "h1", .str "h2", .str "h0"], .non, .tup [.str "A"], .tup [.int 1], .tup [.str "h1", .str "h2"], .tup [], .tup [.str "a b"], .tup [.str "abcdefghijklm"], .tup [.str "abcdefghijkl"], .str "ab", .tup [.str "h0", .str "h1", .str "h2", .str "a"], .tup [.str "b", .str "a"]]
  | .int 4 => [.tup [.str "h0", .str "h1", .str "h2", .str "h3"], .tup [.str "h0", .str "h1", .str "h2", .str "h3"], .tup [.str "h0", .str "h1", .str "h2", .str "h3"], .tup [.str "h0", .str "h1", .str "h2", .str "h3", .str "zz"], .tup [.str "h3", .str "h2", .str "h1", .str "h0"], .lst [.str "h0", .str "h1", .str "h2", .str "h3"], .tup [.str "h0", .str "h1", .str "h2", .str "h3", .str "h0"], .non, .tup [.str "A"], .tup [.int 1], .tup [.str "h1", .str "h2", .str "h3"], .tup [], .tup [.str "a b"], .tup [.str "abcdefghijklm"], .tup [.str "abcdefghijkl"], .str "ab", .tup [.str "h0", .str "h1", .str "h2", .str "h3", .str "a"], .tup [.str "b", .str "a"]]
  | _ => []
theorem nrH_in : ∀ a ∈ BS, ∀ x ∈ nrH a, x ∈ IH ∨ x ∈ VH := AllM.at (.cons (AllM.at (.cons (.inr (List.mem_of_getElem? (i := 0) rfl)) <| .cons (.inr (List.mem_of_getElem? (i := 0) rfl)) <| .cons (.inr (List.mem_of_getElem? (i := 0) rfl)) <| .cons (.inr (List.mem_of_getElem? (i := 1) rfl)) <| .cons (.inr (List.mem_of_getElem? (i := 0) rfl)) <| .cons (.inl (List.mem_of_getElem? (i := 0) rfl)) <| .cons (.inr (List.mem_of_getElem? (i := 0) rfl)) <| .cons (.inl (List.mem_of_getElem? (i := 1) rfl)) <| .cons (.inl (List.mem_of_getElem? (i := 2) rfl)) <| .cons (.inl (List.mem_of_getElem? (i := 3) rfl)) <| .cons (.inr (List.mem_of_getElem? (i := 0) rfl)) <| .cons (.inr (List.mem_of_getElem? (i := 0) rfl)) <| .cons (.inl (List.mem_of_getElem? (i := 4) rfl)) <| .cons (.inl (List.mem_of_getElem? (i := 5) rfl)) <| .cons (.inr (List.mem_of_getElem? (i := 2) rfl)) <| .cons (.inl (List.mem_of_getElem? (i := 6) rfl)) <| .cons (.inr (List.mem_of_getElem? (i := 3) rfl)) <| .cons (.inl (List.mem_of_getElem? (i := 7) rfl)) <| .nil)) <| .cons (AllM.at (.cons (.inr (List.mem_of_getElem? (i := 8) rfl)) <| .cons (.inr (List.mem_of_getElem? (i := 8) rfl)) <| .cons (.inr (List.mem_of_getElem? (i := 8) rfl)) <| .cons (.inr (List.mem_of_getElem? (i := 9) rfl)) <| .cons (.inr (List.mem_of_getElem? (i := 8) rfl)) <| .cons (.inl (List.mem_of_getElem? (i := 12) rfl)) <| .cons (.inl (List.mem_of_getElem? (i := 13) rfl)) <| .cons (.inl (List.mem_of_getElem? (i := 1) rfl)) <| .cons (.inl (List.mem_of_getElem? (i := 2) rfl)) <| .cons (.inl (List.mem_of_getElem? (i := 3) rfl)) <| .cons (.inr (List.mem_of_getElem? (i := 0) rfl)) <| .cons (.inr (List.mem_of_getElem? (i := 0) rfl)) <| .cons (.inl (List.mem_of_getElem? (i := 4) rfl)) <| .cons (.inl (List.mem_of_getElem? (i := 5) rfl)) <| .cons (.inr (List.mem_of_getElem? (i := 2) rfl)) <| .cons (.inl (List.mem_of_getElem? (i := 6) rfl)) <| .cons (.inl (List.mem_of_getElem? (i := 14) rfl)) <| .cons (.inl (List.mem_of_getElem? (i := 7) rfl)) <| .nil)) <| .cons (AllM.at (.cons (.inr (List.mem_of_getElem? (i := 10) rfl)) <| .cons (.inr (List.mem_of_getElem? (i := 10) rfl)) <| .cons (.inr (List.mem_of_getElem? (i := 10) rfl)) <| .cons (.inr (List.mem_of_getElem? (i := 11) rfl)) <| .cons (.inl (List.mem_of_getElem? (i := 15) rfl)) <| .cons (.inl (List.mem_of_getElem? (i := 16) rfl)) <| .cons (.inl (List.mem_of_getElem? (i := 17) rfl)) <| .cons (.inl (List.mem_of_getElem? (i := 1) rfl)) <| .cons (.inl (List.mem_of_getElem? (i := 2) rfl)) <| .cons (.inl (List.mem_of_getElem? (i := 3) rfl)) <| .cons (.inr (List.mem_of_getElem? (i := 12) rfl)) <| .cons (.inr (List.mem_of_getElem? (i := 0) rfl)) <| .cons (.inl (List.mem_of_getElem? (i := 4) rfl)) <| .cons (.inl (List.mem_of_getElem? (i := 5) rfl)) <| .cons (.inr (List.mem_of_getElem? (i := 2) rfl)) <| .cons (.inl (List.mem_of_getElem? (i := 6) rfl)) <| .cons (.inl (List.mem_of_getElem? (i := 18) rfl)) <| .cons (.inl (List.mem_of_getElem? (i := 7) rfl)) <| .nil)) <| .cons (AllM.at (.cons (.inr (List.mem_of_getElem? (i := 13) rfl)) <| .cons (.inr (List.mem_of_getElem? (i := 13) rfl)) <| .cons (.inr (List.mem_of_getElem? (i := 13) rfl)) <| .cons (.inr (List.mem_of_getElem? (i := 14) rfl)) <| .cons (.inl (List.mem_of_getElem? (i := 19) rfl)) <| .cons (.inl (List.mem_of_getElem? (i := 20) rfl)) <| .cons (.inl (List.mem_of_getElem? (i := 21) rfl)) <| .cons (.inl (List.mem_of_getElem? (i := 1) rfl)) <| .cons (.inl (List.mem_of_getElem? (i := 2) rfl)) <| .cons (.inl (List.mem_of_getElem? (i := 3) rfl)) <| .cons (.inr (List.mem_of_getElem? (i := 15) rfl)) <| .cons (.inr (List.mem_of_getElem? (i := 0) rfl)) <| .cons (.inl (List.mem_of_getElem? (i := 4) rfl)) <| .cons (.inl (List.mem_of_getElem? (i := 5) rfl)) <| .cons (.inr (List.mem_of_getElem? (i := 2) rfl)) <| .cons (.inl (List.mem_of_getElem? (i := 6) rfl)) <| .cons (.inl (List.mem_of_getElem? (i := 22) rfl)) <| .cons (.inl (List.mem_of_getElem? (i := 7) rfl)) <| .nil)) <| .cons (AllM.at (.cons (.inr (List.mem_of_getElem? (i := 16) rfl)) <| .cons (.inr (List.mem_of_getElem? (i := 16) rfl)) <| .cons (.inr (List.mem_of_getElem? (i := 16) rfl)) <| .cons (.inl (List.mem_of_getElem? (i := 23) rfl)) <| .cons (.inl (List.mem_of_getElem? (i := 24) rfl)) <| .cons (.inl (List.mem_of_getElem? (i := 25) rfl)) <| .cons (.inl (List.mem_of_getElem? (i := 26) rfl)) <| .cons (.inl (List.mem_of_getElem? (i := 1) rfl)) <| .cons (.inl (List.mem_of_getElem? (i := 2) rfl)) <| .cons (.inl (List.mem_of_getElem? (i := 3) rfl)) <| .cons (.inr (List.mem_of_getElem? (i := 17) rfl)) <| .cons (.inr (List.mem_of_getElem? (i := 0) rfl)) <| .cons (.inl (List.mem_of_getElem? (i := 4) rfl)) <| .cons (.inl (List.mem_of_getElem? (i := 5) rfl)) <| .cons (.inr (List.mem_of_getElem? (i := 2) rfl)) <| .cons (.inl (List.mem_of_getElem? (i := 6) rfl)) <| .cons (.inl (List.mem_of_getElem? (i := 27) rfl)) <| .cons (.inl (List.mem_of_getElem? (i := 7) rfl)) <| .nil)) <| .nil)
def st22 (i : Nat) : C := g22.b.getD i .bad
theorem nrP_st (k n : Nat) (S : Sto) : ∀ a ∈ AS, evCs (ev G (evF G k) k (N0 + 39)) (rsF G k) G.su [st22 0, st22 1] [some (.ref n), V (nP a), none, none] S = .nx [some (.ref n), V (nP a), V (.lst (nrP a)), none] S := AllM.at (.cons (by kernel_rfl) <| .cons (by kernel_rfl) <| .cons (by kernel_rfl) <| .cons (by kernel_rfl) <| .cons (by kernel_rfl) <| .nil)
theorem nrH_st (k n : Nat) (S : Sto) : ∀ a ∈ BS, evCs (ev G (evF G k) k (N0 + 39)) (rsF G k) G.su [st22 0, st22 1] [some (.ref n), V (nH a), none, none] S = .nx [some (.ref n), V (nH a), V (.lst (nrH a)), none] S := AllM.at (.cons (by kernel_rfl) <| .cons (by kernel_rfl) <| .cons (by kernel_rfl) <| .cons (by kernel_rfl) <| .cons (by kernel_rfl) <| .nil)
/-- the names of a roll -/
def nN (r : Nat) : P := .tup (["n0", "n1", "n2", "n3", "n4", "n5", "n6", "n7"].take r |>.map fun x => .str (Str.ofString x))
theorem nNP : ∀ r, r < 9 → nN r ∈ IP ∨ nN r ∈ VP
  | 0, _ => .inl (List.mem_of_getElem? (i := 5) rfl)
  | 1, _ => .inr (List.mem_of_getElem? (i := 3) rfl)
  | 2, _ => .inr (List.mem_of_getElem? (i := 4) rfl)
  | 3, _ => .inr (List.mem_of_getElem? (i := 5) rfl)
  | 4, _ => .inr (List.mem_of_getElem? (i := 6) rfl)
  | 5, _ => .inr (List.mem_of_getElem? (i := 7) rfl)
  | 6, _ => .inl (List.mem_of_getElem? (i := 11) rfl)
  | 7, _ => .inl (List.mem_of_getElem? (i := 12) rfl)
  | 8, _ => .inl (List.mem_of_getElem? (i := 13) rfl)
  | r + 9, h => absurd h (by omega)
theorem nNH : ∀ r, r < 9 → nN r ∈ IH ∨ nN r ∈ VH
  | 0, _ => .inr (List.mem_of_getElem? (i := 0) rfl)
  | 1, _ => .inr (List.mem_of_getElem? (i := 4) rfl)
  | 2, _ => .inr (List.mem_of_getElem? (i := 5) rfl)
  | 3, _ => .inr (List.mem_of_getElem? (i := 6) rfl)
  | 4, _ => .inr (List.mem_of_getElem? (i := 7) rfl)
  | 5, _ => .inl (List.mem_of_getElem? (i := 8) rfl)
  | 6, _ => .inl (List.mem_of_getElem? (i := 9) rfl)
  | 7, _ => .inl (List.mem_of_getElem? (i := 10) rfl)
  | 8, _ => .inl (List.mem_of_getElem? (i := 11) rfl)
  | r + 9, h => absurd h (by omega)
theorem lcN (cal : Nat → List D → Sto → Mn.R D) (fr n : Nat) (N l : P) (S : Sto) : ∀ r, r < 9 → Mn.lcP (ev G cal fr (N0 + 34)) [some (.ref n), V N, V l, none] (.n 3) none (.bin .add (.k (.str "n")) (.bi .str [(.v 3)])) (iota 0 r) S = .ok (match nN r with | .tup xs => xs | _ => []) S
  | 0, _ => by kernel_rfl
  | 1, _ => by kernel_rfl
  | 2, _ => by kernel_rfl
  | 3, _ => by kernel_rfl
  | 4, _ => by kernel_rfl
  | 5, _ => by kernel_rfl
  | 6, _ => by kernel_rfl
  | 7, _ => by kernel_rfl
  | 8, _ => by kernel_rfl
  | r + 9, h => absurd h (by omega)
end Lw28
namespace Lw28
open PySem Mn
def nNs (r : Nat) : List P := match nN r with
  | .tup xs => xs
  | _ => []
theorem nN_len : ∀ r, r < 9 → (nNs r).length < 100
  | 0, _ => by decide
  | 1, _ => by decide
  | 2, _ => by decide
  | 3, _ => by decide
  | 4, _ => by decide
  | 5, _ => by decide
  | 6, _ => by decide
  | 7, _ => by decide
  | 8, _ => by decide
  | r + 9, h => absurd h (by omega)
def lcX : Mn.E := .lc false [3] (.n 3) .rng1 [(.call 12 [(.v 0), (.k (.int 9))])] none (.bin .add (.k (.str "n")) (.bi .str [(.v 3)]))
/-- _law_bent_names -/
theorem f22 (k : Nat) {n m : Nat} {N : P} {nr : List P} {S : Sto} (st : evCs (ev G (evF G (k + 2)) (k + 2) (N0 + 39)) (rsF G (k + 2)) G.su [st22 0, st22 1] [some (.ref n), V N, none, none] S = .nx [some (.ref n), V N, V (.lst nr), none] S) (hl : nr.length = 18) (d : Dc S n m) (hm : m + 5 < 2 ^ 60) :
    ∃ r x S', r < 9 ∧ x ∈ nr ++ [nN r] ∧ evF G (k + 3) 22 [.ref n, .p N] S = .ok (.p x) S' ∧ Dc S' n (m + 2) := by
  obtain ⟨v, S1, q1, v0, v1, d1, _⟩ := c21 (k + 1) S (t := 9) d (by omega) (by decide) (by decide)
  obtain ⟨r, rfl⟩ : ∃ r : Nat, v = r := ⟨v.toNat, by omega⟩
  have hr : r < 9 := by omega
  obtain ⟨x, S2, hx, q2, d2, _⟩ := c22 k S1 (items := nr ++ [nN r]) d1 (by omega) (by simp) (by simp [hl])
  refine ⟨r, x, S2, hr, hx, ?_, d2⟩
  rw [runF (k + 2) 22 [.ref n, .p N] S g22 rfl rfl]
  have ct : ∀ L, callR (evF G (k + 2)) (k + 2) L 12 [.ref n, I 9] S = .ok (I r) S1 := fun L => cr_ref _ _ _ _ _ _ _ _ _ q1
  have cp : ∀ L, callR (evF G (k + 2)) (k + 2) L 13 [.ref n, .p (.lst (nr ++ [nN r]))] S1 = .ok (.p x) S2 := fun L => cr_ref _ _ _ _ _ _ _ _ _ q2
  have wk : walkR .rng1 [I r] S1 = .ok (iota 0 r) S1 := by
    show lift S1 (if inR (r : Int) = true then some (iota 0 (r : Int).toNat) else none) = _
    rw [if_pos (by unfold inR; simp; omega)]
    rfl
  have a1 : evs (ev G (evF G (k + 2)) (k + 2) (N0 + 34)) [(.call 12 [(.v 0), (.k (.int 9))])] [some (.ref n), V N, V (.lst nr), none] S = .ok [I r] S1 := by
    rw [q_es, show N0 + 34 = N0 + 33 + 1 from rfl, q_evE, q_call]
    show (R.bind (callR (evF G (k + 2)) (k + 2) [some (.ref n), V N, V (.lst nr), none] 12 [.ref n, I 9] S) _) = _
    rw [ct]
    rfl
  have a2 : (ev G (evF G (k + 2)) (k + 2) (N0 + 35)).e lcX [some (.ref n), V N, V (.lst nr), none] S = .ok (.p (.lst (nNs r))) S1 := by
    have e0 : wipeL [some (.ref n), V N, V (.lst nr), none] [3] = [some (.ref n), V N, V (.lst nr), none] := rfl
    have z : Mn.lcP (ev G (evF G (k + 2)) (k + 2) (N0 + 34)) [some (.ref n), V N, V (.lst nr), none] (.n 3) none (.bin .add (.k (.str "n")) (.bi .str [(.v 3)])) (iota 0 r) S1 = .ok (nNs r) S1 := lcN _ _ _ _ _ _ r hr
    rw [show N0 + 35 = N0 + 34 + 1 from rfl, q_evE]
    show evE _ _ _ (.lc _ _ _ _ _ _ _) _ S = _
    rw [q_lc, a1, q_ok, wk, q_ok, e0, z, q_noex, q_ok, if_pos (Nat.lt_trans (nN_len r hr) line_big)]
    rfl
  have tl : (match nN r with
    | .tup xs => xs
    | _ => [] : List P) = nNs r := rfl
  have a3 : (ev G (evF G (k + 2)) (k + 2) (N0 + 37)).e (.lst false [(.bi .tuple [lcX])]) [some (.ref n), V N, V (.lst nr), none] S = .ok (.p (.lst [nN r])) S1 := by
    have b : (ev G (evF G (k + 2)) (k + 2) (N0 + 36)).e (.bi .tuple [lcX]) [some (.ref n), V N, V (.lst nr), none] S = .ok (.p (nN r)) S1 := by
      rw [show N0 + 36 = N0 + 35 + 1 from rfl, q_evE, q_bi, q_es, a2, q_ok, q_es0, q_ok, q_ok]
      rfl
    rw [show N0 + 37 = N0 + 36 + 1 from rfl, q_evE, q_lst, q_es, b, q_ok, q_es0, q_ok, q_ok]
    rfl
  have a4 : (ev G (evF G (k + 2)) (k + 2) (N0 + 38)).e (.bin .add (.v 2) (.lst false [(.bi .tuple [lcX])])) [some (.ref n), V N, V (.lst nr), none] S = .ok (.p (.lst (nr ++ [nN r]))) S1 := by
    have v2 : (ev G (evF G (k + 2)) (k + 2) (N0 + 37)).e (.v 2) [some (.ref n), V N, V (.lst nr), none] S = .ok (.p (.lst nr)) S := rfl
    rw [show N0 + 38 = N0 + 37 + 1 from rfl, q_evE, q_bin, v2, q_ok, a3, q_ok]
    show liftP S1 (if nr.length + [nN r].length ≤ line then some (.lst (nr ++ [nN r])) else none) = _
    rw [if_pos (by rw [hl]; show 18 + 1 ≤ line; decide)]
    rfl
  have s2 : evC (ev G (evF G (k + 2)) (k + 2) (N0 + 39)) (rsF G (k + 2)) G.su (st22 2) [some (.ref n), V N, V (.lst nr), none] S = .rt (.p x) S2 := by
    show evC _ _ _ (.ret (.call 13 [(.v 0), (.bin .add (.v 2) (.lst false [(.bi .tuple [lcX])]))])) _ S = _
    have v0 : (ev G (evF G (k + 2)) (k + 2) (N0 + 38)).e (.v 0) [some (.ref n), V N, V (.lst nr), none] S = .ok (.ref n) S := rfl
    rw [q_ret, show N0 + 39 = N0 + 38 + 1 from rfl, q_evE, q_call, q_es, v0, q_ok, q_es, a4, q_ok, q_es0, q_ok, q_ok, q_ok, cp, q_fl]
  show endR _ (evCs _ _ _ [st22 0, st22 1, st22 2] [some (.ref n), V N, none, none] S) = _
  rw [mid st (seqR s2), q_end, san_pl d2.1]
end Lw28
namespace Lw28
open PySem Mn
def st23 (i : Nat) : C := g23.b.getD i .bad
def ones : List P := [.tup [.int 2, .int 2], .int 1, .tup [.int 1, .int 0], .tup [.bl true, .int 1], .non, .tup [.int (10 ^ 40), .int 7]]
/-- the near tables of the rows R and a last row of the entries X -/
def bent (R X : List P) : List P := [.tup (R ++ [.tup X]), .tup (R ++ [.tup X]), .tup (R ++ [.tup X]), .tup ((R ++ [P.tup X]).drop 1), .tup ((R ++ [P.tup X]) ++ (R ++ [P.tup X]).take 1), .lst (R ++ [.tup X]), .non, .tup [], .str "table", .int 0, .tup (R ++ [.non]), .tup (R ++ [.tup (X.drop 1)]), .tup (R ++ [.tup (X ++ [.tup [.int 0, .int 1]])]), .tup (R ++ [.lst X])] ++ ones.map fun o => .tup (R ++ [.tup (X.dropLast ++ [o])])
def BT (k n : Nat) (S : Sto) (R X : List P) : Prop := evCs (ev G (evF G k) k (N0 + 39)) (rsF G k) G.su [st23 0] [some (.ref n), V (.tup (R ++ [.tup X])), none, none, none] S = .nx [some (.ref n), V (.tup (R ++ [.tup X])), V (.lst ((bent R X).take 11)), none, none] S ∧
  evCs (ev G (evF G k) k (N0 + 39)) (rsF G k) G.su [st23 2, st23 3] [some (.ref n), V (.tup (R ++ [.tup X])), V (.lst ((bent R X).take 11)), V (.tup X), none] S = .nx [some (.ref n), V (.tup (R ++ [.tup X])), V (.lst (bent R X)), V (.tup X), none] S
theorem bt_1_1 (k n : Nat) (S : Sto) (x0 : P) : BT k n S [] [x0] := by unfold BT; exact ⟨by kernel_rfl, by kernel_rfl⟩
theorem bt_1_2 (k n : Nat) (S : Sto) (x0 x1 : P) : BT k n S [] [x0, x1] := by unfold BT; exact ⟨by kernel_rfl, by kernel_rfl⟩
theorem bt_1_3 (k n : Nat) (S : Sto) (x0 x1 x2 : P) : BT k n S [] [x0, x1, x2] := by unfold BT; exact ⟨by kernel_rfl, by kernel_rfl⟩
theorem bt_1_4 (k n : Nat) (S : Sto) (x0 x1 x2 x3 : P) : BT k n S [] [x0, x1, x2, x3] := by unfold BT; exact ⟨by kernel_rfl, by kernel_rfl⟩
theorem bt_1_5 (k n : Nat) (S : Sto) (x0 x1 x2 x3 x4 : P) : BT k n S [] [x0, x1, x2, x3, x4] := by unfold BT; exact ⟨by kernel_rfl, by kernel_rfl⟩
theorem bt_2_2 (k n : Nat) (S : Sto) (r0 : P) (x0 x1 : P) : BT k n S [r0] [x0, x1] := by unfold BT; exact ⟨by kernel_rfl, by kernel_rfl⟩
theorem bt_2_3 (k n : Nat) (S : Sto) (r0 : P) (x0 x1 x2 : P) : BT k n S [r0] [x0, x1, x2] := by unfold BT; exact ⟨by kernel_rfl, by kernel_rfl⟩
theorem bt_2_4 (k n : Nat) (S : Sto) (r0 : P) (x0 x1 x2 x3 : P) : BT k n S [r0] [x0, x1, x2, x3] := by unfold BT; exact ⟨by kernel_rfl, by kernel_rfl⟩
theorem bt_2_5 (k n : Nat) (S : Sto) (r0 : P) (x0 x1 x2 x3 x4 : P) : BT k n S [r0] [x0, x1, x2, x3, x4] := by unfold BT; exact ⟨by kernel_rfl, by kernel_rfl⟩
theorem bt_2_6 (k n : Nat) (S : Sto) (r0 : P) (x0 x1 x2 x3 x4 x5 : P) : BT k n S [r0] [x0, x1, x2, x3, x4, x5] := by unfold BT; exact ⟨by kernel_rfl, by kernel_rfl⟩
theorem bt_3_3 (k n : Nat) (S : Sto) (r0 r1 : P) (x0 x1 x2 : P) : BT k n S [r0, r1] [x0, x1, x2] := by unfold BT; exact ⟨by kernel_rfl, by kernel_rfl⟩
theorem bt_3_4 (k n : Nat) (S : Sto) (r0 r1 : P) (x0 x1 x2 x3 : P) : BT k n S [r0, r1] [x0, x1, x2, x3] := by unfold BT; exact ⟨by kernel_rfl, by kernel_rfl⟩
theorem bt_3_5 (k n : Nat) (S : Sto) (r0 r1 : P) (x0 x1 x2 x3 x4 : P) : BT k n S [r0, r1] [x0, x1, x2, x3, x4] := by unfold BT; exact ⟨by kernel_rfl, by kernel_rfl⟩
theorem bt_3_6 (k n : Nat) (S : Sto) (r0 r1 : P) (x0 x1 x2 x3 x4 x5 : P) : BT k n S [r0, r1] [x0, x1, x2, x3, x4, x5] := by unfold BT; exact ⟨by kernel_rfl, by kernel_rfl⟩
theorem bt_3_7 (k n : Nat) (S : Sto) (r0 r1 : P) (x0 x1 x2 x3 x4 x5 x6 : P) : BT k n S [r0, r1] [x0, x1, x2, x3, x4, x5, x6] := by unfold BT; exact ⟨by kernel_rfl, by kernel_rfl⟩
theorem bt_4_4 (k n : Nat) (S : Sto) (r0 r1 r2 : P) (x0 x1 x2 x3 : P) : BT k n S [r0, r1, r2] [x0, x1, x2, x3] := by unfold BT; exact ⟨by kernel_rfl, by kernel_rfl⟩
theorem bt_4_5 (k n : Nat) (S : Sto) (r0 r1 r2 : P) (x0 x1 x2 x3 x4 : P) : BT k n S [r0, r1, r2] [x0, x1, x2, x3, x4] := by unfold BT; exact ⟨by kernel_rfl, by kernel_rfl⟩
theorem bt_4_6 (k n : Nat) (S : Sto) (r0 r1 r2 : P) (x0 x1 x2 x3 x4 x5 : P) : BT k n S [r0, r1, r2] [x0, x1, x2, x3, x4, x5] := by unfold BT; exact ⟨by kernel_rfl, by kernel_rfl⟩
theorem bt_4_7 (k n : Nat) (S : Sto) (r0 r1 r2 : P) (x0 x1 x2 x3 x4 x5 x6 : P) : BT k n S [r0, r1, r2] [x0, x1, x2, x3, x4, x5, x6] := by unfold BT; exact ⟨by kernel_rfl, by kernel_rfl⟩
theorem bt_4_8 (k n : Nat) (S : Sto) (r0 r1 r2 : P) (x0 x1 x2 x3 x4 x5 x6 x7 : P) : BT k n S [r0, r1, r2] [x0, x1, x2, x3, x4, x5, x6, x7] := by unfold BT; exact ⟨by kernel_rfl, by kernel_rfl⟩
theorem bt_5_5 (k n : Nat) (S : Sto) (r0 r1 r2 r3 : P) (x0 x1 x2 x3 x4 : P) : BT k n S [r0, r1, r2, r3] [x0, x1, x2, x3, x4] := by unfold BT; exact ⟨by kernel_rfl, by kernel_rfl⟩
theorem bt_5_6 (k n : Nat) (S : Sto) (r0 r1 r2 r3 : P) (x0 x1 x2 x3 x4 x5 : P) : BT k n S [r0, r1, r2, r3] [x0, x1, x2, x3, x4, x5] := by unfold BT; exact ⟨by kernel_rfl, by kernel_rfl⟩
theorem bt_5_7 (k n : Nat) (S : Sto) (r0 r1 r2 r3 : P) (x0 x1 x2 x3 x4 x5 x6 : P) : BT k n S [r0, r1, r2, r3] [x0, x1, x2, x3, x4, x5, x6] := by unfold BT; exact ⟨by kernel_rfl, by kernel_rfl⟩
theorem bt_5_8 (k n : Nat) (S : Sto) (r0 r1 r2 r3 : P) (x0 x1 x2 x3 x4 x5 x6 x7 : P) : BT k n S [r0, r1, r2, r3] [x0, x1, x2, x3, x4, x5, x6, x7] := by unfold BT; exact ⟨by kernel_rfl, by kernel_rfl⟩
theorem bt_5_9 (k n : Nat) (S : Sto) (r0 r1 r2 r3 : P) (x0 x1 x2 x3 x4 x5 x6 x7 x8 : P) : BT k n S [r0, r1, r2, r3] [x0, x1, x2, x3, x4, x5, x6, x7, x8] := by unfold BT; exact ⟨by kernel_rfl, by kernel_rfl⟩
end Lw28
namespace Lw28
open PySem Mn
theorem dats_of (n : Nat) : ∀ {ps : List P}, (∀ p ∈ ps, dat n p = true) → dats n ps = true
  | [], _ => by unfold dats; rfl
  | p :: ps, h => by
    unfold dats
    rw [h p List.mem_cons_self, dats_of n fun q hq => h q (List.mem_cons_of_mem _ hq)]
    rfl
theorem smD : ∀ v ∈ SM, dat 62 v = true := AllM.at (.cons (by kernel_rfl) <| .cons (by kernel_rfl) <| .cons (by kernel_rfl) <| .cons (by kernel_rfl) <| .cons (by kernel_rfl) <| .cons (by kernel_rfl) <| .cons (by kernel_rfl) <| .cons (by kernel_rfl) .nil)
theorem tdD {rs : List P} (h : ∀ r ∈ rs, ∃ es : List P, r = .tup es ∧ ∀ e ∈ es, e ∈ SM) : dat 64 (.tup rs) = true := by
  show dats 63 rs = true
  refine dats_of 63 fun r hr => ?_
  obtain ⟨es, rfl, he⟩ := h r hr
  show dats 62 es = true
  exact dats_of 62 fun e q => smD e (he e q)
theorem item_last (R : List P) (x : P) : item (.tup (R ++ [x])) (.int (-1)) = some x := by
  show (ixN (R ++ [x]).length (-1)).bind (fun j => (R ++ [x])[j]?) = some x
  have e : ixN (R ++ [x]).length (-1) = some R.length := by
    unfold ixN
    rw [if_neg (by decide), if_pos (by simp; omega)]
    congr 1
    simp
    omega
  rw [e]
  simp
theorem ne_tup {R : List P} {x : P} (hd : dat 64 (.tup (R ++ [x])) = true) : cmpo .ne (.tup (R ++ [x])) (.tup []) = some true := by
  show (eqO (.tup (R ++ [x])) (.tup [])).map not = _
  have e : eqO (.tup (R ++ [x])) (.tup []) = some false := by
    show (if dat 64 (.tup (R ++ [x])) && dat 64 (.tup []) then some (PyData.eqv (toP (.tup (R ++ [x]))) (toP (.tup []))) else none) = _
    rw [hd]
    cases R with
    | nil => rfl
    | cons r R => rfl
  rw [e]
  rfl
def ix3 : Mn.E := .ite (.cmp .ne (.v 1) (.tup [])) (.ix (.v 1) (.neg (.k (.int (1))))) (.tup [])
theorem s231 (k n : Nat) (S : Sto) (near : P) {R : List P} {x : P} (hd : dat 64 (.tup (R ++ [x])) = true) : evC (ev G (evF G k) k (N0 + 39)) (rsF G k) G.su (st23 1) [some (.ref n), V (.tup (R ++ [x])), V near, none, none] S = .nx [some (.ref n), V (.tup (R ++ [x])), V near, V x, none] S := by
  show evC _ _ _ (.set 3 ix3) _ S = _
  have t : (ev G (evF G k) k (N0 + 38)).t (.cmp .ne (.v 1) (.tup [])) [some (.ref n), V (.tup (R ++ [x])), V near, none, none] S = .ok true S := by
    have c : cmpR .ne (.p (.tup (R ++ [x]))) (.p (.tup [])) S = .ok (B true) S := by
      show evB (cmpo .ne (.tup (R ++ [x])) (.tup [])) S = _
      rw [ne_tup hd]
      rfl
    rw [show N0 + 38 = N0 + 37 + 1 from rfl, q_evT, q_tcmp]
    show (cmpR .ne (.p (.tup (R ++ [x]))) (.p (.tup [])) S).bind _ = _
    rw [c, q_ok, q_trub]
  have i : (ev G (evF G k) k (N0 + 38)).e (.ix (.v 1) (.neg (.k (.int (1))))) [some (.ref n), V (.tup (R ++ [x])), V near, none, none] S = .ok (.p x) S := by
    show ixR (.p (.tup (R ++ [x]))) (I (-1)) S = _
    show liftP S (item (.tup (R ++ [x])) (.int (-1))) = _
    rw [item_last]
    rfl
  rw [q_set, show N0 + 39 = N0 + 38 + 1 from rfl, q_evE]
  show Mn.R.fl _ (evE _ _ _ (.ite _ _ _) _ S) _ = _
  rw [q_ite, t, q_ok, if_pos rfl, i, q_fl]
  rfl
/-! ### a drawn table's near tables -/
theorem rvD {r : P} (h : ∃ es : List P, r = .tup es ∧ es.length < 50 ∧ ∀ e ∈ es, e ∈ SM) : RV r := by
  obtain ⟨es, rfl, hl, he⟩ := h
  exact .inr ⟨es, fun e q => smEN e (he e q), Nat.lt_trans hl (by decide), .inl rfl⟩
theorem onesEN : ∀ o ∈ ones, o ∈ EN := AllM.at (.cons (by simp [EN]) <| .cons (by simp [EN]) <| .cons (by simp [EN]) <| .cons (by simp [EN]) <| .cons (by simp [EN]) <| .cons (by simp [EN]) .nil)
theorem tvL {rs : List P} (h : ∀ r ∈ rs, RV r) (hl : rs.length < 100) : TV (.tup rs) := .inr ⟨rs, h, hl, .inl rfl⟩
theorem tvA {R : List P} {y : P} (h : ∀ r ∈ R, RV r) (hl : R.length < 50) (hy : RV y) : TV (.tup (R ++ [y])) :=
  tvL (fun r hr => by
    rcases List.mem_append.mp hr with q | q
    · exact h r q
    · rw [List.mem_singleton.mp q]; exact hy) (by simp; omega)
theorem bent_TV {R X : List P} (hR : ∀ r ∈ R, ∃ es : List P, r = .tup es ∧ es.length < 50 ∧ ∀ e ∈ es, e ∈ SM) (hl : R.length < 20) (hX : ∀ e ∈ X, e ∈ SM) (hx : X.length < 40) : ∀ v ∈ bent R X, TV v := by
  have rR : ∀ r ∈ R, RV r := fun r hr => rvD (hR r hr)
  have rX : RV (.tup X) := rvD ⟨X, rfl, by omega, hX⟩
  have XE : ∀ e ∈ X, e ∈ EN := fun e q => smEN e (hX e q)
  have rA : ∀ r ∈ R ++ [P.tup X], RV r := fun r hr => by
    rcases List.mem_append.mp hr with q | q
    · exact rR r q
    · rw [List.mem_singleton.mp q]; exact rX
  have t0 : TV (.tup (R ++ [.tup X])) := tvA rR (by omega) rX
  intro v hv
  unfold bent at hv
  rcases List.mem_append.mp hv with h | h
  · have all : AllM TV [.tup (R ++ [.tup X]), .tup (R ++ [.tup X]), .tup (R ++ [.tup X]), .tup ((R ++ [P.tup X]).drop 1), .tup ((R ++ [P.tup X]) ++ (R ++ [P.tup X]).take 1), .lst (R ++ [.tup X]), .non, .tup [], .str "table", .int 0, .tup (R ++ [.non]), .tup (R ++ [.tup (X.drop 1)]), .tup (R ++ [.tup (X ++ [.tup [.int 0, .int 1]])]), .tup (R ++ [.lst X])] := by
      refine .cons t0 <| .cons t0 <| .cons t0 <| .cons ?_ <| .cons ?_ <| .cons ?_ <| .cons ?_ <| .cons ?_ <| .cons ?_ <| .cons ?_ <| .cons ?_ <| .cons ?_ <| .cons ?_ <| .cons ?_ .nil
      · exact tvL (fun r hr => rA r (List.mem_of_mem_drop hr)) (by simp; omega)
      · exact tvL (fun r hr => by
          rcases List.mem_append.mp hr with q | q
          · exact rA r q
          · exact rA r (List.mem_of_mem_take q)) (by simp; omega)
      · exact .inr ⟨_, rA, by simp; omega, .inr rfl⟩
      · exact .inl (.inl rfl)
      · exact tvL (fun r hr => by cases hr) (by decide)
      · exact .inl (.inr (.inl rfl))
      · exact .inl (.inr (.inr rfl))
      · exact tvA rR (by omega) (.inl rfl)
      · exact tvA rR (by omega) (.inr ⟨_, fun e q => XE e (List.mem_of_mem_drop q), by simp; omega, .inl rfl⟩)
      · exact tvA rR (by omega) (.inr ⟨_, fun e q => by
          rcases List.mem_append.mp q with q | q
          · exact XE e q
          · rw [List.mem_singleton.mp q]; simp [EN], by simp; omega, .inl rfl⟩)
      · exact tvA rR (by omega) (.inr ⟨_, XE, by omega, .inr rfl⟩)
    exact all.at v h
  · obtain ⟨o, ho, rfl⟩ := List.mem_map.mp h
    exact tvA rR (by omega) (.inr ⟨_, fun e q => by
      rcases List.mem_append.mp q with q | q
      · exact XE e ((List.dropLast_sublist _).subset q)
      · rw [List.mem_singleton.mp q]; exact onesEN o ho, by simp; omega, .inl rfl⟩)
theorem bent_len (R X : List P) : (bent R X).length = 20 := rfl
end Lw28
namespace Lw28
open PySem Mn
theorem ls_1 {X : List P} (h : X.length = 1) : ∃ x0, X = [x0] := match X, h with
  | [x0], _ => ⟨x0, rfl⟩
theorem ls_2 {X : List P} (h : X.length = 2) : ∃ x0 x1, X = [x0, x1] := match X, h with
  | [x0, x1], _ => ⟨x0, x1, rfl⟩
theorem ls_3 {X : List P} (h : X.length = 3) : ∃ x0 x1 x2, X = [x0, x1, x2] := match X, h with
  | [x0, x1, x2], _ => ⟨x0, x1, x2, rfl⟩
theorem ls_4 {X : List P} (h : X.length = 4) : ∃ x0 x1 x2 x3, X = [x0, x1, x2, x3] := match X, h with
  | [x0, x1, x2, x3], _ => ⟨x0, x1, x2, x3, rfl⟩
theorem ls_5 {X : List P} (h : X.length = 5) : ∃ x0 x1 x2 x3 x4, X = [x0, x1, x2, x3, x4] := match X, h with
  | [x0, x1, x2, x3, x4], _ => ⟨x0, x1, x2, x3, x4, rfl⟩
theorem ls_6 {X : List P} (h : X.length = 6) : ∃ x0 x1 x2 x3 x4 x5, X = [x0, x1, x2, x3, x4, x5] := match X, h with
  | [x0, x1, x2, x3, x4, x5], _ => ⟨x0, x1, x2, x3, x4, x5, rfl⟩
theorem ls_7 {X : List P} (h : X.length = 7) : ∃ x0 x1 x2 x3 x4 x5 x6, X = [x0, x1, x2, x3, x4, x5, x6] := match X, h with
  | [x0, x1, x2, x3, x4, x5, x6], _ => ⟨x0, x1, x2, x3, x4, x5, x6, rfl⟩
theorem ls_8 {X : List P} (h : X.length = 8) : ∃ x0 x1 x2 x3 x4 x5 x6 x7, X = [x0, x1, x2, x3, x4, x5, x6, x7] := match X, h with
  | [x0, x1, x2, x3, x4, x5, x6, x7], _ => ⟨x0, x1, x2, x3, x4, x5, x6, x7, rfl⟩
theorem ls_9 {X : List P} (h : X.length = 9) : ∃ x0 x1 x2 x3 x4 x5 x6 x7 x8, X = [x0, x1, x2, x3, x4, x5, x6, x7, x8] := match X, h with
  | [x0, x1, x2, x3, x4, x5, x6, x7, x8], _ => ⟨x0, x1, x2, x3, x4, x5, x6, x7, x8, rfl⟩
theorem as_or {a : Nat} (h : (.int a : P) ∈ AS) : a = 1 ∨ a = 2 ∨ a = 3 ∨ a = 4 ∨ a = 5 := by
  simp only [AS, List.mem_cons, List.not_mem_nil, or_false, P.int.injEq] at h
  omega
theorem bs_or {b : Nat} (h : (.int b : P) ∈ BS) : b = 0 ∨ b = 1 ∨ b = 2 ∨ b = 3 ∨ b = 4 := by
  simp only [BS, List.mem_cons, List.not_mem_nil, or_false, P.int.injEq] at h
  omega
theorem bt_1 (k n : Nat) (S : Sto) {b : Nat} {R X : List P} (hb : (.int b : P) ∈ BS) (hR : R.length = 0) (hX : X.length = 1 + b) : BT k n S R X := by
  obtain rfl : R = [] := List.eq_nil_of_length_eq_zero hR
  rcases bs_or hb with rfl | rfl | rfl | rfl | rfl
  · obtain ⟨x0, rfl⟩ := ls_1 hX
    exact bt_1_1 k n S x0
  · obtain ⟨x0, x1, rfl⟩ := ls_2 hX
    exact bt_1_2 k n S x0 x1
  · obtain ⟨x0, x1, x2, rfl⟩ := ls_3 hX
    exact bt_1_3 k n S x0 x1 x2
  · obtain ⟨x0, x1, x2, x3, rfl⟩ := ls_4 hX
    exact bt_1_4 k n S x0 x1 x2 x3
  · obtain ⟨x0, x1, x2, x3, x4, rfl⟩ := ls_5 hX
    exact bt_1_5 k n S x0 x1 x2 x3 x4
theorem bt_2 (k n : Nat) (S : Sto) {b : Nat} {R X : List P} (hb : (.int b : P) ∈ BS) (hR : R.length = 1) (hX : X.length = 2 + b) : BT k n S R X := by
  obtain ⟨r0, rfl⟩ := ls_1 hR
  rcases bs_or hb with rfl | rfl | rfl | rfl | rfl
  · obtain ⟨x0, x1, rfl⟩ := ls_2 hX
    exact bt_2_2 k n S r0 x0 x1
  · obtain ⟨x0, x1, x2, rfl⟩ := ls_3 hX
    exact bt_2_3 k n S r0 x0 x1 x2
  · obtain ⟨x0, x1, x2, x3, rfl⟩ := ls_4 hX
    exact bt_2_4 k n S r0 x0 x1 x2 x3
  · obtain ⟨x0, x1, x2, x3, x4, rfl⟩ := ls_5 hX
    exact bt_2_5 k n S r0 x0 x1 x2 x3 x4
  · obtain ⟨x0, x1, x2, x3, x4, x5, rfl⟩ := ls_6 hX
    exact bt_2_6 k n S r0 x0 x1 x2 x3 x4 x5
theorem bt_3 (k n : Nat) (S : Sto) {b : Nat} {R X : List P} (hb : (.int b : P) ∈ BS) (hR : R.length = 2) (hX : X.length = 3 + b) : BT k n S R X := by
  obtain ⟨r0, r1, rfl⟩ := ls_2 hR
  rcases bs_or hb with rfl | rfl | rfl | rfl | rfl
  · obtain ⟨x0, x1, x2, rfl⟩ := ls_3 hX
    exact bt_3_3 k n S r0 r1 x0 x1 x2
  · obtain ⟨x0, x1, x2, x3, rfl⟩ := ls_4 hX
    exact bt_3_4 k n S r0 r1 x0 x1 x2 x3
  · obtain ⟨x0, x1, x2, x3, x4, rfl⟩ := ls_5 hX
    exact bt_3_5 k n S r0 r1 x0 x1 x2 x3 x4
  · obtain ⟨x0, x1, x2, x3, x4, x5, rfl⟩ := ls_6 hX
    exact bt_3_6 k n S r0 r1 x0 x1 x2 x3 x4 x5
  · obtain ⟨x0, x1, x2, x3, x4, x5, x6, rfl⟩ := ls_7 hX
    exact bt_3_7 k n S r0 r1 x0 x1 x2 x3 x4 x5 x6
theorem bt_4 (k n : Nat) (S : Sto) {b : Nat} {R X : List P} (hb : (.int b : P) ∈ BS) (hR : R.length = 3) (hX : X.length = 4 + b) : BT k n S R X := by
  obtain ⟨r0, r1, r2, rfl⟩ := ls_3 hR
  rcases bs_or hb with rfl | rfl | rfl | rfl | rfl
  · obtain ⟨x0, x1, x2, x3, rfl⟩ := ls_4 hX
    exact bt_4_4 k n S r0 r1 r2 x0 x1 x2 x3
  · obtain ⟨x0, x1, x2, x3, x4, rfl⟩ := ls_5 hX
    exact bt_4_5 k n S r0 r1 r2 x0 x1 x2 x3 x4
  · obtain ⟨x0, x1, x2, x3, x4, x5, rfl⟩ := ls_6 hX
    exact bt_4_6 k n S r0 r1 r2 x0 x1 x2 x3 x4 x5
  · obtain ⟨x0, x1, x2, x3, x4, x5, x6, rfl⟩ := ls_7 hX
    exact bt_4_7 k n S r0 r1 r2 x0 x1 x2 x3 x4 x5 x6
  · obtain ⟨x0, x1, x2, x3, x4, x5, x6, x7, rfl⟩ := ls_8 hX
    exact bt_4_8 k n S r0 r1 r2 x0 x1 x2 x3 x4 x5 x6 x7
theorem bt_5 (k n : Nat) (S : Sto) {b : Nat} {R X : List P} (hb : (.int b : P) ∈ BS) (hR : R.length = 4) (hX : X.length = 5 + b) : BT k n S R X := by
  obtain ⟨r0, r1, r2, r3, rfl⟩ := ls_4 hR
  rcases bs_or hb with rfl | rfl | rfl | rfl | rfl
  · obtain ⟨x0, x1, x2, x3, x4, rfl⟩ := ls_5 hX
    exact bt_5_5 k n S r0 r1 r2 r3 x0 x1 x2 x3 x4
  · obtain ⟨x0, x1, x2, x3, x4, x5, rfl⟩ := ls_6 hX
    exact bt_5_6 k n S r0 r1 r2 r3 x0 x1 x2 x3 x4 x5
  · obtain ⟨x0, x1, x2, x3, x4, x5, x6, rfl⟩ := ls_7 hX
    exact bt_5_7 k n S r0 r1 r2 r3 x0 x1 x2 x3 x4 x5 x6
  · obtain ⟨x0, x1, x2, x3, x4, x5, x6, x7, rfl⟩ := ls_8 hX
    exact bt_5_8 k n S r0 r1 r2 r3 x0 x1 x2 x3 x4 x5 x6 x7
  · obtain ⟨x0, x1, x2, x3, x4, x5, x6, x7, x8, rfl⟩ := ls_9 hX
    exact bt_5_9 k n S r0 r1 r2 r3 x0 x1 x2 x3 x4 x5 x6 x7 x8
theorem bt_of (k n : Nat) (S : Sto) {a b : Nat} {R X : List P} (ha : (.int a : P) ∈ AS) (hb : (.int b : P) ∈ BS) (hR : R.length + 1 = a) (hX : X.length = a + b) : BT k n S R X := by
  rcases as_or ha with rfl | rfl | rfl | rfl | rfl
  · exact bt_1 k n S hb (by omega) hX
  · exact bt_2 k n S hb (by omega) hX
  · exact bt_3 k n S hb (by omega) hX
  · exact bt_4 k n S hb (by omega) hX
  · exact bt_5 k n S hb (by omega) hX
/-- a drawn table's rows, the last one apart -/
theorem td_split {a b : Nat} {t : P} (h : TD a b t) (ha : 0 < a) : ∃ R X : List P, t = .tup (R ++ [.tup X]) ∧ R.length + 1 = a ∧ X.length = a + b ∧ (∀ r ∈ R, ∃ es : List P, r = .tup es ∧ es.length = a + b ∧ ∀ e ∈ es, e ∈ SM) ∧ ∀ e ∈ X, e ∈ SM := by
  obtain ⟨rs, rfl, hl, hr⟩ := h
  have hne : rs ≠ [] := fun e => by subst e; simp at hl; omega
  obtain ⟨X, e1, e2, e3⟩ := hr (rs.getLast hne) (List.getLast_mem hne)
  refine ⟨rs.dropLast, X, ?_, ?_, e2, fun r q => hr r ((List.dropLast_sublist _).subset q), e3⟩
  · rw [← e1, List.dropLast_concat_getLast hne]
  · rw [List.length_dropLast]; omega
/-- _law_bent_table -/
theorem f23 (k : Nat) {n m a b : Nat} {t : P} {S : Sto} (ht : TD a b t) (ha : (.int a : P) ∈ AS) (hb : (.int b : P) ∈ BS) (d : Dc S n m) (hm : m + 5 < 2 ^ 60) :
    ∃ x S', TV x ∧ evF G (k + 3) 23 [.ref n, .p t] S = .ok (.p x) S' ∧ Dc S' n (m + 1) := by
  have a5 := as_or ha
  have b5 := bs_or hb
  obtain ⟨R, X, rfl, hR, hX, hr, hx⟩ := td_split ht (by omega)
  obtain ⟨t0, t2⟩ := bt_of (k + 2) n S ha hb hR hX
  have hd : dat 64 (.tup (R ++ [P.tup X])) = true := tdD fun r q => by
    rcases List.mem_append.mp q with q | q
    · obtain ⟨es, e1, _, e3⟩ := hr r q
      exact ⟨es, e1, e3⟩
    · rw [List.mem_singleton.mp q]
      exact ⟨X, rfl, hx⟩
  obtain ⟨x, S', hxm, q, d', _⟩ := c22 k S (items := bent R X) d (by omega) (by rw [bent_len]; decide) (by rw [bent_len]; decide)
  have tv := bent_TV (R := R) (X := X) (fun r q => by
    obtain ⟨es, e1, e2, e3⟩ := hr r q
    exact ⟨es, e1, by omega, e3⟩) (by omega) hx (by omega) x hxm
  refine ⟨x, S', tv, ?_, d'⟩
  rw [runF (k + 2) 23 [.ref n, .p (.tup (R ++ [P.tup X]))] S g23 rfl rfl]
  have s4 : evC (ev G (evF G (k + 2)) (k + 2) (N0 + 39)) (rsF G (k + 2)) G.su (st23 4) [some (.ref n), V (.tup (R ++ [.tup X])), V (.lst (bent R X)), V (.tup X), none] S = .rt (.p x) S' := by
    show evC _ _ _ (.ret (.call 13 [(.v 0), (.v 2)])) _ S = _
    have cp : ∀ L, callR (evF G (k + 2)) (k + 2) L 13 [.ref n, .p (.lst (bent R X))] S = .ok (.p x) S' := fun L => cr_ref _ _ _ _ _ _ _ _ _ q
    have vs : evs (ev G (evF G (k + 2)) (k + 2) (N0 + 38)) [(.v 0), (.v 2)] [some (.ref n), V (.tup (R ++ [.tup X])), V (.lst (bent R X)), V (.tup X), none] S = .ok [.ref n, .p (.lst (bent R X))] S := rfl
    rw [q_ret, show N0 + 39 = N0 + 38 + 1 from rfl, q_evE, q_call, vs, q_ok, cp, q_fl]
  show endR _ (evCs _ _ _ ([st23 0] ++ ([st23 1] ++ ([st23 2, st23 3] ++ [st23 4]))) [some (.ref n), V (.tup (R ++ [.tup X])), none, none, none] S) = _
  have r : evCs (ev G (evF G (k + 2)) (k + 2) (N0 + 39)) (rsF G (k + 2)) G.su ([st23 0] ++ ([st23 1] ++ ([st23 2, st23 3] ++ [st23 4]))) [some (.ref n), V (.tup (R ++ [.tup X])), none, none, none] S = .rt (.p x) S' := by
    rw [evCs_app, t0]
    show evCs _ _ _ (st23 1 :: _) _ _ = _
    refine seq (s231 (k + 2) n S (.lst ((bent R X).take 11)) hd) ?_
    show evCs _ _ _ ([st23 2, st23 3] ++ [st23 4]) _ _ = _
    rw [evCs_app, t2]
    exact seqR s4
  rw [r, q_end, san_pl d'.1]
end Lw28
namespace Lw28
open PySem Mn
abbrev R0 : Ev := ev G (evF G 10) 10 (N0 + 38)
def st25 (i : Nat) : C := g25.b.getD i .bad
abbrev X25 (i : Nat) (L : Mn.Loc) (S : Sto) : Fl := evC (ev G (evF G 10) 10 (N0 + 39)) (rsF G 10) G.su (st25 i) L S
theorem cr_ref3 {cal : Nat → List D → Sto → Mn.R D} {fr : Nat} {L : Mn.Loc} {f n : Nat} {x y z : P} {S S' : Sto} (h : cal f [.ref n, .p x, .p y] S = .ok (.p z) S') : callR cal fr L f [.ref n, .p x, .p y] S = .ok (.p z) S' := by
  show callS cal f [.ref n, .p x, .p y] S = _
  unfold callS
  rw [h]
  rfl
theorem roll {n m : Nat} {T : Int} {S : Sto} (d : Dc S n m) (hm : m < 2 ^ 60) (h0 : 0 < T) (h1 : T < 100) : ∃ (r : Nat) (S' : Sto), (r : Int) < T ∧ Dc S' n (m + 1) ∧ ∀ (j : Nat) (L : Mn.Loc), L[0]? = some (some (.ref n)) → (ev G (evF G 10) 10 (j + 2)).e (.call 12 [(.v 0), (.k (.int T))]) L S = .ok (I r) S' := by
  obtain ⟨v, S1, q1, v0, v1, d1, _⟩ := c21 9 S (t := T) d (by omega) h0 (by omega)
  obtain ⟨r, rfl⟩ : ∃ r : Nat, v = r := ⟨v.toNat, by omega⟩
  refine ⟨r, S1, v1, d1, fun j L hL => ?_⟩
  have e : callR (evF G 10) 10 L 12 [.ref n, I T] S = .ok (I r) S1 := cr_ref _ _ _ _ _ _ _ _ _ q1
  rw [q_evE, q_call, q_es, q_evE, q_v, hL, q_ok, q_es, q_evE, q_k, q_ok, q_es0, q_ok, q_ok, q_ok, e]
theorem memA : ∀ r : Nat, (r : Int) < 5 → (.int ((1 + r : Nat) : Int) : P) ∈ AS
  | 0, _ => List.mem_of_getElem? (i := 0) rfl
  | 1, _ => List.mem_of_getElem? (i := 1) rfl
  | 2, _ => List.mem_of_getElem? (i := 2) rfl
  | 3, _ => List.mem_of_getElem? (i := 3) rfl
  | 4, _ => List.mem_of_getElem? (i := 4) rfl
  | r + 5, h => absurd h (by omega)
theorem memB : ∀ r : Nat, (r : Int) < 5 → (.int ((r : Nat) : Int) : P) ∈ BS
  | 0, _ => List.mem_of_getElem? (i := 0) rfl
  | 1, _ => List.mem_of_getElem? (i := 1) rfl
  | 2, _ => List.mem_of_getElem? (i := 2) rfl
  | 3, _ => List.mem_of_getElem? (i := 3) rfl
  | 4, _ => List.mem_of_getElem? (i := 4) rfl
  | r + 5, h => absurd h (by omega)
theorem s250 {n m : Nat} {S : Sto} (d : Dc S n m) (hm : m + 2000 < 2 ^ 60) : ∃ (a b : Nat) (t : P) (S' : Sto), (.int a : P) ∈ AS ∧ (.int b : P) ∈ BS ∧ TD a b t ∧ X25 0 [some (.ref n), none, none, none, none, none] S = .nx [some (.ref n), V (wks (nP (.int a)) t (nH (.int b))), none, none, none, none] S' ∧ Dc S' n (m + 100) := by
  obtain ⟨r, S1, hr, d1, q1⟩ := roll (T := 5) d (by omega) (by decide) (by decide)
  obtain ⟨w, S2, hw, d2, q2⟩ := roll (T := 5) d1 (by omega) (by decide) (by decide)
  obtain ⟨t, S3, q3, td, d3⟩ := f18 7 (a := 1 + r) (b := w) (memA r hr) (memB w hw) (by omega) (by omega) d2 (by omega)
  have hx : (1 + r + w) * (1 + r) ≤ 9 * 5 := Nat.mul_le_mul (by omega) (by omega)
  refine ⟨1 + r, w, t, S3, memA r hr, memB w hw, td, ?_, d3.mono (by omega)⟩
  have e1 : (ev G (evF G 10) 10 (N0 + 38)).e (.bin .add (.k (.int 1)) (.call 12 [(.v 0), (.k (.int 5))])) [some (.ref n), none, none, none, none, none] S = .ok (I ((1 + r : Nat) : Int)) S1 := by
    have k1 : (ev G (evF G 10) 10 (N0 + 37)).e (.k (.int 1)) [some (.ref n), none, none, none, none, none] S = .ok (I 1) S := rfl
    have c1 : (ev G (evF G 10) 10 (N0 + 37)).e (.call 12 [(.v 0), (.k (.int 5))]) [some (.ref n), none, none, none, none, none] S = .ok (I r) S1 := q1 (N0 + 35) _ rfl
    rw [show N0 + 38 = N0 + 37 + 1 from rfl, q_evE, q_bin, k1, q_ok, c1, q_ok]
    show R.ok (I (1 + (r : Int))) S1 = _
    rw [show ((1 + r : Nat) : Int) = 1 + (r : Int) from by omega]
  have e2 : (ev G (evF G 10) 10 (N0 + 38)).e (.call 12 [(.v 0), (.k (.int 5))]) [some (.ref n), none, none, none, none, none] S1 = .ok (I w) S2 := q2 (N0 + 36) _ rfl
  have v0 : (ev G (evF G 10) 10 (N0 + 38)).e (.v 0) [some (.ref n), none, none, none, none, none] S = .ok (.ref n) S := rfl
  have c3 : callR (evF G 10) 10 [some (.ref n), none, none, none, none, none] 18 [.ref n, I ((1 + r : Nat) : Int), I w] S2 = .ok (.p (wks (nP (.int ((1 + r : Nat) : Int))) t (nH (.int w)))) S3 := cr_ref3 q3
  show evC _ _ _ (.set 1 (.call 18 [(.v 0), (.bin .add (.k (.int 1)) (.call 12 [(.v 0), (.k (.int 5))])), (.call 12 [(.v 0), (.k (.int 5))])])) _ S = _
  rw [q_set, show N0 + 39 = N0 + 38 + 1 from rfl, q_evE, q_call, q_es, v0, q_ok, q_es, e1, q_ok, q_es, e2, q_ok, q_es0, q_ok, q_ok, q_ok, q_ok, c3, q_fl]
  rfl
theorem nrP_len : ∀ a ∈ AS, (nrP a).length = 18 := AllM.at (.cons rfl <| .cons rfl <| .cons rfl <| .cons rfl <| .cons rfl .nil)
theorem nrH_len : ∀ a ∈ BS, (nrH a).length = 18 := AllM.at (.cons rfl <| .cons rfl <| .cons rfl <| .cons rfl <| .cons rfl .nil)
theorem ar_pl (n j : Nat) (p t h : P) (l2 l3 l4 l5 : Option D) (S : Sto) : evs (ev G (evF G 10) 10 (j + 2)) [(.v 0), (.ix (.v 1) (.k (.str "places")))] [some (.ref n), V (wks p t h), l2, l3, l4, l5] S = .ok [.ref n, .p p] S := by kernel_rfl
theorem ar_ha (n j : Nat) (p t h : P) (l2 l3 l4 l5 : Option D) (S : Sto) : evs (ev G (evF G 10) 10 (j + 2)) [(.v 0), (.ix (.v 1) (.k (.str "hands")))] [some (.ref n), V (wks p t h), l2, l3, l4, l5] S = .ok [.ref n, .p h] S := by kernel_rfl
theorem ar_ta (n j : Nat) (p t h : P) (l2 l3 l4 l5 : Option D) (S : Sto) : evs (ev G (evF G 10) 10 (j + 2)) [(.v 0), (.ix (.v 1) (.k (.str "table")))] [some (.ref n), V (wks p t h), l2, l3, l4, l5] S = .ok [.ref n, .p t] S := by kernel_rfl
theorem ix_pl (n j : Nat) (p t h : P) (l2 l3 l4 l5 : Option D) (S : Sto) : (ev G (evF G 10) 10 (j + 2)).e (.ix (.v 1) (.k (.str "places"))) [some (.ref n), V (wks p t h), l2, l3, l4, l5] S = .ok (.p p) S := by kernel_rfl
theorem s251 {n m a b : Nat} {t : P} {S : Sto} (ha : (.int a : P) ∈ AS) (hb : (.int b : P) ∈ BS) (d : Dc S n m) (hm : m + 2000 < 2 ^ 60) : ∃ (p h : P) (S' : Sto), (p ∈ IP ∨ p ∈ VP) ∧ (h ∈ IH ∨ h ∈ VH) ∧ X25 1 [some (.ref n), V (wks (nP (.int a)) t (nH (.int b))), none, none, none, none] S = .nx [some (.ref n), V (wks (nP (.int a)) t (nH (.int b))), V p, V h, none, none] S' ∧ Dc S' n (m + 4) := by
  obtain ⟨r, p, S1, hr, hp, q1, d1⟩ := f22 7 (nrP_st 9 n S _ ha) (nrP_len _ ha) d (by omega)
  obtain ⟨w, h, S2, hw, hh, q2, d2⟩ := f22 7 (nrH_st 9 n S1 _ hb) (nrH_len _ hb) d1 (by omega)
  refine ⟨p, h, S2, ?_, ?_, ?_, d2⟩
  · rcases List.mem_append.mp hp with q | q
    · exact nrP_in _ ha p q
    · rw [List.mem_singleton.mp q]; exact nNP r hr
  · rcases List.mem_append.mp hh with q | q
    · exact nrH_in _ hb h q
    · rw [List.mem_singleton.mp q]; exact nNH w hw
  have c1 : ∀ L, callR (evF G 10) 10 L 22 [.ref n, .p (nP (.int a))] S = .ok (.p p) S1 := fun L => cr_ref _ _ _ _ _ _ _ _ _ q1
  have c2 : ∀ L, callR (evF G 10) 10 L 22 [.ref n, .p (nH (.int b))] S1 = .ok (.p h) S2 := fun L => cr_ref _ _ _ _ _ _ _ _ _ q2
  show evC _ _ _ (.setT [2, 3] [(.call 22 [(.v 0), (.ix (.v 1) (.k (.str "places")))]), (.call 22 [(.v 0), (.ix (.v 1) (.k (.str "hands")))])]) _ S = _
  have a1 := ar_pl n (N0 + 36) (nP (.int a)) t (nH (.int b)) none none none none S
  have a2 := ar_ha n (N0 + 36) (nP (.int a)) t (nH (.int b)) none none none none S1
  rw [q_setT, q_es, show N0 + 39 = N0 + 36 + 2 + 1 from rfl, q_evE, q_call, a1, q_ok, c1, q_ok, q_es, q_evE, q_call, a2, q_ok, c2, q_ok, q_es0, q_ok, q_ok, q_fl]
  rfl
theorem s252 {n m a b : Nat} {t p h : P} {S : Sto} (ht : TD a b t) (ha : (.int a : P) ∈ AS) (hb : (.int b : P) ∈ BS) (d : Dc S n m) (hm : m + 2000 < 2 ^ 60) : ∃ (x : P) (S' : Sto), TV x ∧ X25 2 [some (.ref n), V (wks (nP (.int a)) t (nH (.int b))), V p, V h, none, none] S = .nx [some (.ref n), V (wks (nP (.int a)) t (nH (.int b))), V p, V h, V x, none] S' ∧ Dc S' n (m + 1) := by
  obtain ⟨x, S1, tv, q1, d1⟩ := f23 7 ht ha hb d (by omega)
  refine ⟨x, S1, tv, ?_, d1⟩
  have c1 : ∀ L, callR (evF G 10) 10 L 23 [.ref n, .p t] S = .ok (.p x) S1 := fun L => cr_ref _ _ _ _ _ _ _ _ _ q1
  show evC _ _ _ (.set 4 (.call 23 [(.v 0), (.ix (.v 1) (.k (.str "table")))])) _ S = _
  have a1 := ar_ta n (N0 + 36) (nP (.int a)) t (nH (.int b)) (V p) (V h) none none S
  rw [q_set, show N0 + 39 = N0 + 36 + 2 + 1 from rfl, q_evE, q_call, a1, q_ok, c1, q_fl]
  rfl
def HQ : P → Nat → P
  | .int 1, _ => .tup [.str "p0", .str "q"]
  | _, 0 => .tup [.str "p0", .str "q"]
  | _, _ => .tup [.str "p0", .str "p1", .str "q"]
def slE : Mn.E := .sl (.ix (.v 1) (.k (.str "places"))) none (some (.bin .add (.k (.int 1)) (.call 12 [(.v 0), (.k (.int 2))])))
def lqE : Mn.E := .bi .tuple [(.bi .sorted [(.bin .add (.bi .list [slE]) (.lst false [(.k (.str "q"))]))])]
def chn (a : P) (r : Int) (s : Ev) (L : Mn.Loc) (S : Sto) : Mn.R D :=
  ((((((((slR (.p (nP a)) none (some (1 + r)) S).bind fun d S1 => R.ok [d] S1).bind fun ds S1 => biR .list ds S1).bind fun x S1 => (R.ok (.p (.lst [.str "q"])) S1 : Mn.R D).bind fun y S2 => binR .add x y S2).bind fun d S1 => R.ok [d] S1).bind fun ds S1 => biR .sorted ds S1).bind fun d S1 => R.ok [d] S1).bind fun ds S1 => biR .tuple ds S1)
theorem chn_ok (s : Ev) (L : Mn.Loc) (S : Sto) : ∀ a ∈ AS, chn a (0 : Nat) s L S = .ok (.p (HQ a 0)) S ∧ chn a (1 : Nat) s L S = .ok (.p (HQ a 1)) S := AllM.at (.cons ⟨by kernel_rfl, by kernel_rfl⟩ <| .cons ⟨by kernel_rfl, by kernel_rfl⟩ <| .cons ⟨by kernel_rfl, by kernel_rfl⟩ <| .cons ⟨by kernel_rfl, by kernel_rfl⟩ <| .cons ⟨by kernel_rfl, by kernel_rfl⟩ .nil)
theorem HQ_in : ∀ a ∈ AS, HQ a 0 ∈ VH ∧ HQ a 1 ∈ VH := AllM.at (by
  refine .cons ⟨?_, ?_⟩ <| .cons ⟨?_, ?_⟩ <| .cons ⟨?_, ?_⟩ <| .cons ⟨?_, ?_⟩ <| .cons ⟨?_, ?_⟩ .nil <;> simp [HQ, VH])
theorem nP_in : ∀ a ∈ AS, nP a ∈ VP := AllM.at (.cons (List.mem_of_getElem? (i := 0) rfl) <| .cons (List.mem_of_getElem? (i := 8) rfl) <| .cons (List.mem_of_getElem? (i := 11) rfl) <| .cons (List.mem_of_getElem? (i := 14) rfl) <| .cons (List.mem_of_getElem? (i := 17) rfl) .nil)
end Lw28
namespace Lw28
open PySem Mn
theorem lq_ok {n m a b : Nat} {t p h x : P} {S : Sto} (ha : (.int a : P) ∈ AS) (d : Dc S n m) (hm : m + 100 < 2 ^ 60) : ∃ (w : Nat) (S' : Sto), (w = 0 ∨ w = 1) ∧ (ev G (evF G 10) 10 (N0 + 38)).e lqE [some (.ref n), V (wks (nP (.int a)) t (nH (.int b))), V p, V h, V x, none] S = .ok (.p (HQ (.int a) w)) S' ∧ Dc S' n (m + 1) := by
  obtain ⟨w, S1, hw, d1, q1⟩ := roll (T := 2) d (by omega) (by decide) (by decide)
  have hw' : w = 0 ∨ w = 1 := by omega
  refine ⟨w, S1, hw', ?_, d1⟩
  generalize hL : [some (D.ref n), V (wks (nP (.int a)) t (nH (.int b))), V p, V h, V x, none] = L
  have l0 : L[0]? = some (some (D.ref n)) := by rw [← hL]; rfl
  have e1 : (ev G (evF G 10) 10 (N0 + 33)).e (.bin .add (.k (.int 1)) (.call 12 [(.v 0), (.k (.int 2))])) L S = .ok (I (1 + (w : Int))) S1 := by
    have k1 : (ev G (evF G 10) 10 (N0 + 32)).e (.k (.int 1)) L S = .ok (I 1) S := rfl
    have c1 : (ev G (evF G 10) 10 (N0 + 32)).e (.call 12 [(.v 0), (.k (.int 2))]) L S = .ok (I w) S1 := q1 (N0 + 30) L l0
    rw [show N0 + 33 = N0 + 32 + 1 from rfl, q_evE, q_bin, k1, q_ok, c1, q_ok]
    rfl
  have ix : (ev G (evF G 10) 10 (N0 + 33)).e (.ix (.v 1) (.k (.str "places"))) L S = .ok (.p (nP (.int a))) S := by
    rw [← hL]
    exact ix_pl n (N0 + 31) (nP (.int a)) t (nH (.int b)) (V p) (V h) (V x) none S
  have sl : (ev G (evF G 10) 10 (N0 + 34)).e slE L S = slR (.p (nP (.int a))) none (some (1 + (w : Int))) S1 := by
    show ((ev G (evF G 10) 10 (N0 + 33)).e (.ix (.v 1) (.k (.str "places"))) L S).bind (fun x S1 => (evOpt (ev G (evF G 10) 10 (N0 + 33)) none L S1).bind fun i S2 => (evOpt (ev G (evF G 10) 10 (N0 + 33)) (some (.bin .add (.k (.int 1)) (.call 12 [(.v 0), (.k (.int 2))]))) L S2).bind fun j S3 => slR x i j S3) = _
    rw [ix, q_ok]
    show (((ev G (evF G 10) 10 (N0 + 33)).e (.bin .add (.k (.int 1)) (.call 12 [(.v 0), (.k (.int 2))])) L S).bind _).bind _ = _
    rw [e1]
    rfl
  have lq : (ev G (evF G 10) 10 (N0 + 38)).e lqE L S = chn (.int a) w (ev G (evF G 10) 10 (N0 + 34)) L S1 := by
    rw [show N0 + 38 = N0 + 34 + 1 + 1 + 1 + 1 from rfl, lqE, q_evE, q_bi, q_es, q_evE, q_bi, q_es, q_evE, q_bin, q_evE, q_bi, q_es, sl]
    rfl
  rw [lq]
  rcases hw' with rfl | rfl
  · exact (chn_ok _ _ _ _ ha).1
  · exact (chn_ok _ _ _ _ ha).2
theorem s253 {n m a b : Nat} {t p h x : P} {S : Sto} (ha : (.int a : P) ∈ AS) (hp : p ∈ IP ∨ p ∈ VP) (hh : h ∈ IH ∨ h ∈ VH) (d : Dc S n m) (hm : m + 2000 < 2 ^ 60) : ∃ (p' h' : P) (S' : Sto), (p' ∈ IP ∨ p' ∈ VP) ∧ (h' ∈ IH ∨ h' ∈ VH) ∧
    X25 3 [some (.ref n), V (wks (nP (.int a)) t (nH (.int b))), V p, V h, V x, none] S = .nx [some (.ref n), V (wks (nP (.int a)) t (nH (.int b))), V p', V h', V x, none] S' ∧ Dc S' n (m + 2) := by
  obtain ⟨r, S1, hr, d1, q1⟩ := roll (T := 4) d (by omega) (by decide) (by decide)
  have tt : (ev G (evF G 10) 10 (N0 + 39)).t (.cmp .eq (.call 12 [(.v 0), (.k (.int 4))]) (.k (.int 0))) [some (.ref n), V (wks (nP (.int a)) t (nH (.int b))), V p, V h, V x, none] S = .ok (decide (r = 0)) S1 := by
    have c1 := q1 (N0 + 36) [some (.ref n), V (wks (nP (.int a)) t (nH (.int b))), V p, V h, V x, none] rfl
    have k1 : (ev G (evF G 10) 10 (N0 + 36 + 2)).e (.k (.int 0)) [some (.ref n), V (wks (nP (.int a)) t (nH (.int b))), V p, V h, V x, none] S1 = .ok (I 0) S1 := rfl
    have e1 : cmpR .eq (I r) (I 0) S1 = .ok (B (decide (r = 0))) S1 := len_eq r 0 S1
    rw [show N0 + 39 = N0 + 36 + 2 + 1 from rfl, q_evT, q_tcmp, q_cmp, c1, q_ok, k1, q_ok, e1, q_ok, q_trub]
  have cite : X25 3 [some (.ref n), V (wks (nP (.int a)) t (nH (.int b))), V p, V h, V x, none] S = if decide (r = 0) = true then (ev G (evF G 10) 10 (N0 + 39)).c [(.setT [2, 3] [(.ix (.v 1) (.k (.str "places"))), lqE])] [some (.ref n), V (wks (nP (.int a)) t (nH (.int b))), V p, V h, V x, none] S1 else .nx [some (.ref n), V (wks (nP (.int a)) t (nH (.int b))), V p, V h, V x, none] S1 := by
    show evC _ _ _ (.ite (.cmp .eq (.call 12 [(.v 0), (.k (.int 4))]) (.k (.int 0))) [(.setT [2, 3] [(.ix (.v 1) (.k (.str "places"))), lqE])] []) _ S = _
    rw [q_cite, tt, q_fl]
    rfl
  by_cases h0 : r = 0
  · obtain ⟨w, S2, hw, q2, d2⟩ := lq_ok (b := b) (t := t) (p := p) (h := h) (x := x) ha d1 (by omega)
    refine ⟨nP (.int a), HQ (.int a) w, S2, .inr (nP_in _ ha), .inr ?_, ?_, d2⟩
    · rcases hw with rfl | rfl
      · exact (HQ_in _ ha).1
      · exact (HQ_in _ ha).2
    · have ix := ix_pl n (N0 + 36) (nP (.int a)) t (nH (.int b)) (V p) (V h) (V x) none S1
      rw [cite, if_pos (by simp [h0]), show N0 + 39 = N0 + 36 + 2 + 1 from rfl, q_evC, q_cons, q_setT, q_es, ix, q_ok, q_es, show N0 + 36 + 2 = N0 + 38 from rfl, q2, q_ok, q_es0, q_ok, q_ok, q_fl]
      rfl
  · refine ⟨p, h, S1, hp, hh, ?_, d1.mono (by omega)⟩
    rw [cite, if_neg (by simp [h0])]
theorem c_pht {f : Nat} {p h t r : P} (q : evF G 10 f [.p p, .p h, .p t] [] = .ok (.p r) []) (j : Nat) (l0 l1 l5 : Option D) (S : Sto) : (ev G (evF G 10) 10 (j + 2)).e (.call f [(.v 2), (.v 3), (.v 4)]) [l0, l1, V p, V h, V t, l5] S = .ok (.p r) S := by
  have c := cr (j := 10) (fr := 10) (L := [l0, l1, V p, V h, V t, l5]) (ps := [p, h, t]) (S := S) q
  have a : evs (ev G (evF G 10) 10 (j + 1)) [(.v 2), (.v 3), (.v 4)] [l0, l1, V p, V h, V t, l5] S = .ok [.p p, .p h, .p t] S := rfl
  rw [q_evE, q_call, a, q_ok]
  exact c
theorem s254 {p h t r : P} (q : evF G 10 21 [.p p, .p h, .p t] [] = .ok (.p r) []) (l0 l1 : Option D) (S : Sto) : X25 4 [l0, l1, V p, V h, V t, none] S = .nx [l0, l1, V p, V h, V t, V r] S := by
  show evC _ _ _ (.set 5 (.call 21 [(.v 2), (.v 3), (.v 4)])) _ S = _
  rw [q_set, show N0 + 39 = N0 + 37 + 2 from rfl, c_pht q, q_fl]
  rfl
theorem s255 {p h t r : P} (q : evF G 10 10 [.p p, .p h, .p t] [] = .ok (.p r) []) (hr : isS (repr1 r) = true) (l0 l1 : Option D) (S : Sto) : X25 5 [l0, l1, V p, V h, V t, V r] S = .nx [l0, l1, V p, V h, V t, V r] S := by
  obtain ⟨y, hy⟩ : ∃ y, repr1 r = some (.str y) := by
    cases e : repr1 r with
    | none => rw [e] at hr; cases hr
    | some z =>
      rw [e] at hr
      cases z with
      | str y => exact ⟨y, rfl⟩
      | _ => cases hr
  have b : biR .repr [.p r] S = .ok (.p (.str y)) S := by
    show liftP S (repr1 r) = _
    rw [hy]
    rfl
  have e1 : (ev G (evF G 10) 10 (N0 + 38)).e (.bi .repr [(.call 10 [(.v 2), (.v 3), (.v 4)])]) [l0, l1, V p, V h, V t, V r] S = .ok (.p (.str y)) S := by
    rw [show N0 + 38 = N0 + 35 + 2 + 1 from rfl, q_evE, q_bi, q_es, c_pht q, q_ok, q_es0, q_ok, q_ok, b]
  have e2 : (ev G (evF G 10) 10 (N0 + 38)).e (.bi .repr [(.v 5)]) [l0, l1, V p, V h, V t, V r] S = .ok (.p (.str y)) S := by
    have v5 : (ev G (evF G 10) 10 (N0 + 37)).e (.v 5) [l0, l1, V p, V h, V t, V r] S = .ok (.p r) S := rfl
    rw [show N0 + 38 = N0 + 37 + 1 from rfl, q_evE, q_bi, q_es, v5, q_ok, q_es0, q_ok, q_ok, b]
  have c : cmpR .ne (.p (.str y)) (.p (.str y)) S = .ok (B false) S := by
    show evB ((eqO (.str y) (.str y)).map not) S = _
    rw [eq_str]
    simp
  show evC _ _ _ (.ite (.cmp .ne (.bi .repr [(.call 10 [(.v 2), (.v 3), (.v 4)])]) (.bi .repr [(.v 5)])) [(.ret (.k (.bl false)))] []) _ S = _
  rw [q_cite, show N0 + 39 = N0 + 38 + 1 from rfl, q_evT, q_tcmp, q_cmp, e1, q_ok, e2, q_ok, c, q_ok, q_trub, q_fl, if_neg Bool.false_ne_true, q_evC, q_nil]
theorem s256 {p h t r : P} {b : Bool} (q : evF G 10 24 [.p p, .p h, .p t] [] = .ok (B b) []) (hb : isNon r = some b) (l0 l1 : Option D) (S : Sto) : X25 6 [l0, l1, V p, V h, V t, V r] S = .rt (B true) S := by
  have e1 : (ev G (evF G 10) 10 (N0 + 38)).e (.call 24 [(.v 2), (.v 3), (.v 4)]) [l0, l1, V p, V h, V t, V r] S = .ok (B b) S := c_pht q (N0 + 36) l0 l1 (V r) S
  have e2 : (ev G (evF G 10) 10 (N0 + 38)).e (.cmp .is (.v 5) (.k .non)) [l0, l1, V p, V h, V t, V r] S = .ok (B b) S := by
    show cmpR .is (.p r) (.p .non) S = _
    show evB (isNon r) S = _
    rw [hb]
    rfl
  have c : cmpR .eq (B b) (B b) S = .ok (B true) S := by cases b <;> rfl
  show evC _ _ _ (.ret (.cmp .eq (.call 24 [(.v 2), (.v 3), (.v 4)]) (.cmp .is (.v 5) (.k .non)))) _ S = _
  rw [q_ret, show N0 + 39 = N0 + 38 + 1 from rfl, q_evE, q_cmp, e1, q_ok, e2, q_ok, c, q_fl]
/-- _law_right -/
theorem c25 {n m : Nat} {S : Sto} (d : Dc S n m) (hm : m + 3000 < 2 ^ 60) : ∃ S', evF G 11 25 [.ref n] S = .ok (.p (.bl true)) S' ∧ Dc S' n (m + 107) := by
  obtain ⟨a, b, t0, S1, ha, hb, td, w0, d1⟩ := s250 d (by omega)
  obtain ⟨p0, h0, S2, hp0, hh0, w1, d2⟩ := s251 (t := t0) ha hb d1 (by omega)
  obtain ⟨t, S3, tv, w2, d3⟩ := s252 (p := p0) (h := h0) td ha hb d2 (by omega)
  obtain ⟨p, h, S4, hp, hh, w3, d4⟩ := s253 (b := b) (t := t0) (x := t) ha hp0 hh0 d3 (by omega)
  obtain ⟨r, fr⟩ := has p h t hp hh
  obtain ⟨bb, hbb, q24⟩ := f24 2 tv fr
  refine ⟨S4, ?_, d4.mono (by omega)⟩
  rw [runF 10 25 [.ref n] S g25 rfl rfl]
  show endR _ (evCs _ _ _ [st25 0, st25 1, st25 2, st25 3, st25 4, st25 5, st25 6] [some (.ref n), none, none, none, none, none] S) = _
  have z : evCs (ev G (evF G 10) 10 (N0 + 39)) (rsF G 10) G.su [st25 0, st25 1, st25 2, st25 3, st25 4, st25 5, st25 6] [some (.ref n), none, none, none, none, none] S = .rt (B true) S4 :=
    seq w0 (seq w1 (seq w2 (seq w3 (seq (s254 (f21 4 tv fr) _ _ _) (seq (s255 (f10 4 tv fr) (says_ok fr).1 _ _ _) (seqR (s256 q24 hbb _ _ _)))))))
  rw [z, q_end, san_pl d4.1]
end Lw28
namespace Lw28
open PySem Mn
abbrev rq : Option (Nat → P → Option Ex) := rsF G 11
theorem inner (l0 l1 l4 l5 : Option D) (n : Nat) : ∀ (j : Nat) (lo : Int) (S : Sto) (m : Nat) (x : Option D), Dc S n m → m + 4000 * j < 2 ^ 60 →
    ∃ S' y, foP (ev G (evF G 11) 11 (N0 + 38)) (.n 3) [(.ite (.not (.call 25 [(.v 2)])) [(.ret (.k (.bl false)))] [])] (iota lo j) [l0, l1, some (.ref n), x, l4, l5] S = .nx [l0, l1, some (.ref n), y, l4, l5] S' ∧ Pl S'
  | 0, lo, S, m, x, d, _ => ⟨S, x, rfl, d.1⟩
  | j + 1, lo, S, m, x, d, hm => by
    obtain ⟨S1, r, d1⟩ := c25 d (by omega)
    obtain ⟨S2, y, e1, pl⟩ := inner l0 l1 l4 l5 n j (lo + 1) S1 (m + 107) (some (I lo)) d1 (by omega)
    refine ⟨S2, y, ?_, pl⟩
    show foP _ _ _ (.int lo :: iota (lo + 1) j) _ _ = _
    rw [q_fo1]
    have ea : asg (.n 3) (.p (.int lo)) [l0, l1, some (.ref n), x, l4, l5] = some [l0, l1, some (.ref n), some (I lo), l4, l5] := rfl
    rw [ea]
    dsimp only
    have cr : ∀ L, callR (evF G 11) 11 L 25 [.ref n] S = .ok (.p (.bl true)) S1 := fun L => cr_ref1 _ _ _ _ _ _ _ _ r
    have t : (ev G (evF G 11) 11 (N0 + 37)).t (.not (.call 25 [(.v 2)])) [l0, l1, some (.ref n), some (I lo), l4, l5] S = .ok false S1 := by
      simp only [q_evT, q_tnot, q_tcall, q_call, q_evE, q_es, q_es0, q_v, List.getElem?_cons_zero, List.getElem?_cons_succ, q_ok, cr, q_trub]
      rfl
    have e2 : (ev G (evF G 11) 11 (N0 + 38)).c [(.ite (.not (.call 25 [(.v 2)])) [(.ret (.k (.bl false)))] [])] [l0, l1, some (.ref n), some (I lo), l4, l5] S = .nx [l0, l1, some (.ref n), some (I lo), l4, l5] S1 := by
      rw [q_evC, q_cons, q_cite, t, q_fl, if_neg Bool.false_ne_true, q_evC, q_nil, q_thn, q_nil]
    rw [e2]
    exact e1
theorem outer (ns : List Int) (l4 l5 : Option D) : ∀ (j : Nat) (lo : Int) (S : Sto) (x1 x2 x3 : Option D), 0 ≤ lo → lo + j < 100 → Pl S →
    ∃ S' y1 y2 y3, foP (ev G (evF G 11) 11 (N0 + 39)) (.n 1) [(.set 2 (.call 11 [(.v 0), (.v 1)])), (.fo (.n 3) .rng1 [(.k (.int 8))] [(.ite (.not (.call 25 [(.v 2)])) [(.ret (.k (.bl false)))] [])])] (iota lo j) [some (.p (.scr ns)), x1, x2, x3, l4, l5] S = .nx [some (.p (.scr ns)), y1, y2, y3, l4, l5] S' ∧ Pl S'
  | 0, lo, S, x1, x2, x3, _, _, pl => ⟨S, x1, x2, x3, rfl, pl⟩
  | j + 1, lo, S, x1, x2, x3, h0, h1, pl => by
    obtain ⟨g', s', r', _, _⟩ := c20 10 ns h0 (by omega) [] rfl
    obtain ⟨g, s, r, g0, s0⟩ := c20 10 ns h0 (by omega) S pl
    have d : Dc (S ++ [.lst [I g, I s, I 0]]) S.length 0 := ⟨pl.app rfl, g, s, 0, by rw [List.getElem?_append_right (Nat.le_refl _)]; simp, g0, Int.le_refl _, Int.le_refl _, s0⟩
    obtain ⟨S1, y3, e1, p1⟩ := inner (some (.p (.scr ns))) (some (I lo)) l4 l5 S.length 8 0 _ 0 x3 d (by decide)
    obtain ⟨S2, z1, z2, z3, e2, p2⟩ := outer ns l4 l5 j (lo + 1) S1 (some (I lo)) (some (.ref S.length)) y3 (by omega) (by omega) p1
    refine ⟨S2, z1, z2, z3, ?_, p2⟩
    show foP _ _ _ (.int lo :: iota (lo + 1) j) _ _ = _
    rw [q_fo1]
    have ea : asg (.n 1) (.p (.int lo)) [some (.p (.scr ns)), x1, x2, x3, l4, l5] = some [some (.p (.scr ns)), some (I lo), x2, x3, l4, l5] := rfl
    rw [ea]
    dsimp only
    have cd : ∀ L, callR (evF G 11) 11 L 11 [.p (.scr ns), I lo] S = .ok (.ref S.length) (S ++ [.lst [I g, I s, I 0]]) := fun L => by
      show (match evF G 11 11 [.p (.scr ns), I lo] [] with
        | .ok (.p x) _ => .ok (.p x) S
        | .ok (.ref _) _ => callS (evF G 11) 11 [.p (.scr ns), I lo] S
        | .ok _ _ => .bad
        | .ex x _ => .ex x S
        | .bad => .bad : Mn.R D) = _
      rw [r']
      show callS (evF G 11) 11 [.p (.scr ns), I lo] S = _
      unfold callS
      rw [r]
      rfl
    have wk : ∀ S, walkR .rng1 [I 8] S = .ok (iota 0 8) S := fun S => rfl
    have e3 : (ev G (evF G 11) 11 (N0 + 39)).c [(.set 2 (.call 11 [(.v 0), (.v 1)])), (.fo (.n 3) .rng1 [(.k (.int 8))] [(.ite (.not (.call 25 [(.v 2)])) [(.ret (.k (.bl false)))] [])])] [some (.p (.scr ns)), some (I lo), x2, x3, l4, l5] S = .nx [some (.p (.scr ns)), some (I lo), some (.ref S.length), y3, l4, l5] S1 := by
      have f1 : evC (ev G (evF G 11) 11 (N0 + 38)) rq G.su (.set 2 (.call 11 [(.v 0), (.v 1)])) [some (.p (.scr ns)), some (I lo), x2, x3, l4, l5] S = .nx [some (.p (.scr ns)), some (I lo), some (.ref S.length), x3, l4, l5] (S ++ [.lst [I g, I s, I 0]]) := by
        simp only [q_set, q_evE, q_call, q_es, q_es0, q_v, List.getElem?_cons_zero, List.getElem?_cons_succ, q_ok, cd, q_fl]
        rfl
      have ar : ∀ L S, evs (ev G (evF G 11) 11 (N0 + 38)) [(.k (.int 8))] L S = .ok [I 8] S := fun L S => by
        simp only [q_es, q_es0, q_evE, q_k, q_ok]
      rw [q_evC, q_cons, f1, q_thn, q_cons, q_fo, ar, q_ok, wk, q_fl, e1, q_thn, q_nil]
    rw [e3]
    exact e2
theorem inR6 {i : Int} (h0 : 1 ≤ i) (h1 : i ≤ 6) : inR i = true := by
  have : i = 1 ∨ i = 2 ∨ i = 3 ∨ i = 4 ∨ i = 5 ∨ i = 6 := by omega
  rcases this with h | h | h | h | h | h <;> subst h <;> rfl
def slt (i : Nat) : C := g26.b.getD i .bad
abbrev X9 (i : Nat) (L : Mn.Loc) (S : Sto) : Fl := evC (ev G (evF G 11) 11 (N0 + 39)) (rsF G 11) G.su (slt i) L S
abbrev ON : P := .tup [.int 1, .int 1]
abbrev TB : P := .lst [.tup [.str "hands"], .tup [.str "twice", .str "a"]]
abbrev TC : P := .lst [.tup [.str "hands"], .tup [.str "twice", .str "a"], .non, .tup [.str "table"]]
theorem w1 (l0 l1 l2 l3 : Option D) (S : Sto) : X9 1 [l0, l1, l2, l3, none, none] S = .nx [l0, l1, l2, l3, some (.p ON), none] S := by kernel_rfl
theorem w2 (l0 l1 l2 l3 : Option D) (S : Sto) : X9 2 [l0, l1, l2, l3, some (.p ON), none] S = .nx [l0, l1, l2, l3, some (.p ON), some (.p TB)] S := by kernel_rfl
theorem w3 (l0 l1 l2 l3 : Option D) (S : Sto) : X9 3 [l0, l1, l2, l3, some (.p ON), some (.p TB)] S = .nx [l0, l1, l2, l3, some (.p ON), some (.p TC)] S := by kernel_rfl
theorem w4 (l0 l1 l2 l3 l4 : Option D) (S : Sto) : X9 4 [l0, l1, l2, l3, l4, some (.p TC)] S = .rt (.p (.bl true)) S := by kernel_rfl
theorem w0 (ns : List Int) : ∃ S1 y1 y2 y3, X9 0 [some (.p (.scr ns)), none, none, none, none, none] [] = .nx [some (.p (.scr ns)), y1, y2, y3, none, none] S1 ∧ Pl S1 := by
  obtain ⟨c, hc, c1, c2⟩ : ∃ c : Int, c = (if (if (ns.length : Int) < 6 then (ns.length : Int) else 6) > 1 then (if (ns.length : Int) < 6 then (ns.length : Int) else 6) else 1) ∧ 1 ≤ c ∧ c ≤ 6 := ⟨_, rfl, by split <;> omega, by split <;> split <;> omega⟩
  obtain ⟨S1, y1, y2, y3, o1, p1⟩ := outer ns none none c.toNat 0 [] none none none (Int.le_refl _) (by omega) rfl
  have lt : ∀ S, biR .len [.p (.scr ns)] S = .ok (I ns.length) S := fun S => rfl
  have mn : ∀ S, biR .min [I 6, I ns.length] S = .ok (I (if (ns.length : Int) < 6 then (ns.length : Int) else 6)) S := fun S => rfl
  have mx : ∀ S, biR .max [I 1, I (if (ns.length : Int) < 6 then (ns.length : Int) else 6)] S = .ok (I c) S := fun S => by rw [hc]; rfl
  have wk : ∀ S, walkR .rng1 [I c] S = .ok (iota 0 c.toNat) S := fun S => by
    show lift S (if inR c = true then some (iota 0 c.toNat) else none) = _
    rw [if_pos (inR6 (by omega) (by omega))]
    rfl
  have ar : evs (ev G (evF G 11) 11 (N0 + 39)) [(.bi .max [(.k (.int 1)), (.bi .min [(.k (.int 6)), (.bi .len [(.v 0)])])])] [some (.p (.scr ns)), none, none, none, none, none] [] = .ok [I c] [] := by
    simp only [q_evE, q_bi, q_es, q_es0, q_v, q_k, List.getElem?_cons_zero, q_ok, lt, mn, mx]
  refine ⟨S1, y1, y2, y3, ?_, p1⟩
  show evC (ev G (evF G 11) 11 (N0 + 39)) (rsF G 11) G.su (.fo (.n 1) .rng1 [(.bi .max [(.k (.int 1)), (.bi .min [(.k (.int 6)), (.bi .len [(.v 0)])])])] [(.set 2 (.call 11 [(.v 0), (.v 1)])), (.fo (.n 3) .rng1 [(.k (.int 8))] [(.ite (.not (.call 25 [(.v 2)])) [(.ret (.k (.bl false)))] [])])]) [some (.p (.scr ns)), none, none, none, none, none] [] = _
  rw [q_fo, ar, q_ok, wk, q_fl]
  exact o1
def JJ : Nat := 12
theorem plain : ∀ ns : List Int, ns.length ≤ 63 → ∃ S, evF (progOf gc FF) JJ 26 [.p (.scr ns)] [] = .ok (.p (.bl true)) S := by
  intro ns _
  rw [G_eq]
  obtain ⟨S1, y1, y2, y3, f0, p1⟩ := w0 ns
  refine ⟨S1, ?_⟩
  show evF G 12 26 [.p (.scr ns)] [] = _
  rw [runF 11 26 [.p (.scr ns)] [] g26 rfl rfl]
  have r : evCs (ev G (evF G 11) 11 (N0 + 39)) (rsF G 11) G.su [slt 0, slt 1, slt 2, slt 3, slt 4] [some (.p (.scr ns)), none, none, none, none, none] [] = .rt (.p (.bl true)) S1 :=
    seq f0 (seq (w1 _ _ _ _ S1) (seq (w2 _ _ _ _ S1) (seq (w3 _ _ _ _ S1) (seqR (w4 _ _ _ _ _ S1)))))
  show endR _ (evCs _ _ _ [slt 0, slt 1, slt 2, slt 3, slt 4] [some (.p (.scr ns)), none, none, none, none, none] []) = _
  rw [r, q_end, san_pl p1]
end Lw28
open PyProof.Rows PySem.Calls PySem.W PySem
theorem PySem.Challenge.cw_hushworks_k28_whole_first_faults_of_work_holds : PySem.Challenge.rw_hushworks_k28_whole_first_faults_of_work.Holds := by
  w_on; o_law
  refine HandSHeadRun.head_any (r := OpenLaw.row PySem.Challenge.rw_hushworks_k28_whole_first_faults_of_work) (q := view (OpenLaw.row PySem.Challenge.rw_hushworks_k28_whole_first_faults_of_work).prog [39]) (H := Lw28.hk) (ob := Lw28.ob) (M := Lw28.MM) (loose := Lw28.names) (d := HandSHeadRun.topDef (OpenLaw.row PySem.Challenge.rw_hushworks_k28_whole_first_faults_of_work).prog 39) (kwd := []) Lw28.ob_eq
    (by kernel_rfl) (fun s => by kernel_rfl) Lw28.run (by kernel_rfl) (by kernel_rfl) (by kernel_rfl) (by rfl) (by first | assumption | decide +kernel) (by decide +kernel) ⟨rfl, rfl, rfl, rfl, rfl, by decide +kernel⟩ ?hw ?hc
  case hw => w_witness2
  case hc =>
    refine Mn.law_end (l := PySem.Challenge.rw_hushworks_k28_whole_first_faults_of_work) (n := 63) (j := Lw28.JJ) (gc := Lw28.gc) (fu := Lw28.FF) (iL := 26) (fdL := Lw28.d26) (x := "script") rfl (by decide) (by kernel_rfl) ⟨rfl, by decide, by decide⟩ rfl rfl (by kernel_rfl) rfl rfl ?F Lw28.plain
    intro w mg h Y G
    obtain ⟨K, KX, c⟩ := Y
    obtain ⟨da, F⟩ := c.d.def_ 26 (d := Mn.ddOf Lw28.d26) rfl
    have wf := Lw28.wf KX G c
    refine ⟨K, _, da, KX, wf, Mn.df_none F (fun _ => He.glo_ok KX G (c.d.fact 26 (f := .glo "law") rfl)) rfl (fun _ => rfl) Lw28.s26 rfl Lw28.b26, Lw28.bA F, fun fd h1 h2 => ?_⟩
    have hm : fd.at_.key ∈ Lw28.tf := List.mem_map.mpr ⟨fd, List.mem_filter.mpr ⟨h1, h2⟩, rfl⟩
    exact ⟨c.empty _ hm, c.out _ hm, c.hd _ hm⟩
