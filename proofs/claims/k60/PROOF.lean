import PyProof.Rows.All
import Wide.All
import OpenK.AllK
import Wide.FinOn
import HandS.ForMost
import HandS.Exc
import HandS.Style
import HandS.Flow
import HandS.TupAny
import HandS.IsInst
import HandS.CallSlots
import HandS.ExcOwn
import HandS.Flt
import HandS.Words
import HandS.WordsExc
import HandS.Ends
import PySem.Challenge.RW_ramet_k60_boxes_and_walls
set_option Elab.async false
set_option linter.all false
/-! An engine: a small language over plain data, with a total evaluator. -/
namespace Ng
open PySem

/-- plain data; ref: a cell of the store -/
inductive D where
  | non | bl (b : Bool) | int (i : Int) | str (x : Str) | tup (ds : List D) | ref (n : Nat) | exc (n : Nat)

mutual
def D.beq : D → D → Bool
  | .non, .non => true
  | .bl a, .bl b => a == b
  | .int i, .int j => i == j
  | .str x, .str y => decide (x = y)
  | .tup xs, .tup ys => D.beqs xs ys
  | .ref m, .ref n => m == n
  | .exc m, .exc n => m == n
  | _, _ => false
def D.beqs : List D → List D → Bool
  | [], [] => true
  | x :: xs, y :: ys => D.beq x y && D.beqs xs ys
  | _, _ => false
end
mutual
theorem D.beq_refl : ∀ d : D, D.beq d d = true
  | .non => rfl
  | .bl a => by simp [D.beq]
  | .int i => by simp [D.beq]
  | .str x => by simp [D.beq]
  | .tup xs => by simp only [D.beq]; exact D.beqs_refl xs
  | .ref n => by simp [D.beq]
  | .exc n => by simp [D.beq]
theorem D.beqs_refl : ∀ ds : List D, D.beqs ds ds = true
  | [] => rfl
  | x :: xs => by simp only [D.beqs, D.beq_refl x, D.beqs_refl xs, Bool.and_self]
end
mutual
theorem D.of_beq : ∀ {a b : D}, D.beq a b = true → a = b
  | .non, b, h => by cases b <;> simp_all [D.beq]
  | .bl x, b, h => by cases b <;> simp_all [D.beq]
  | .int x, b, h => by cases b <;> simp_all [D.beq]
  | .str x, b, h => by cases b <;> simp_all [D.beq]
  | .ref x, b, h => by cases b <;> simp_all [D.beq]
  | .exc x, b, h => by cases b <;> simp_all [D.beq]
  | .tup xs, b, h => by
    cases b with
    | tup ys => simp only [D.beq] at h; rw [D.of_beqs h]
    | _ => simp [D.beq] at h
theorem D.of_beqs : ∀ {xs ys : List D}, D.beqs xs ys = true → xs = ys
  | [], [], _ => rfl
  | [], _ :: _, h => by simp [D.beqs] at h
  | _ :: _, [], h => by simp [D.beqs] at h
  | x :: xs, y :: ys, h => by
    simp only [D.beqs, Bool.and_eq_true] at h
    rw [D.of_beq h.1, D.of_beqs h.2]
end
instance : DecidableEq D := fun a b => if h : D.beq a b = true then isTrue (D.of_beq h) else isFalse fun e => h (by rw [e]; exact D.beq_refl b)

/-- what stands in a cell: a list; a list that is never written; a dict; an instance (its class by number, its attributes) -/
inductive Cell where
  | lst (ds : List D) | ro (ds : List D) | dct (kvs : List (D × D)) | ins (c : Nat) (fs : List (Str × D))
  deriving DecidableEq
abbrev Store := List Cell
abbrev Env := List (Option D)

/-- an outcome: a value, an exception (its class by number, its attributes), or nothing that the engine knows -/
inductive R (α : Type) where
  | ok (a : α) (S : Store) | exc (c : Nat) (fs : List (Str × D)) (S : Store) | bad
def R.bind {α β : Type} (r : R α) (k : α → Store → R β) : R β :=
  match r with
  | .ok a S => k a S
  | .exc c fs S => .exc c fs S
  | .bad => .bad
inductive O where
  | nx (ρ : Env) (S : Store) | bk (ρ : Env) (S : Store) | ct (ρ : Env) (S : Store) | ret (d : D) (S : Store) | exc (c : Nat) (fs : List (Str × D)) (ρ : Env) (S : Store) | bad
def O.of {α : Type} (ρ : Env) (r : R α) (k : α → Store → O) : O :=
  match r with
  | .ok a S => k a S
  | .exc c fs S => .exc c fs ρ S
  | .bad => .bad

inductive B2 where
  | add | sub | mul | fdiv | mod | pow
  deriving DecidableEq
inductive CO where
  | eq | ne | lt | le | gt | ge | is | isnot | in_ | notin
  deriving DecidableEq
/-- built-ins by name -/
inductive Bi where
  | len | abs | min2 | max2 | min3 | max3 | int | str | tuple | list | any | all | sum | sorted | minL | maxL | dict0 | dict
  deriving DecidableEq
/-- methods of built-in types -/
inductive Me where
  | append | pop | popAt | get1 | get2 | extend | clear | reverse | insert
  deriving DecidableEq
/-- types asked by isinstance -/
inductive Ty where
  | int | bool | str | tuple | list | dict
  deriving DecidableEq

/-- expressions, tests, argument lists (nil, cons), iterables -/
inductive E where
  | var (i : Nat) | non | bl (b : Bool) | int (i : Int) | str (x : Str) | glb (x : Str) (d : D)
  | bin (o : B2) (a b : E) | neg (a : E)
  | cmp (o : CO) (a b : E) | chain (o1 o2 : CO) (a b c : E)
  | not (a : E) | and (a b : E) | or (a b : E) | ite (c a b : E)
  | tup (as : E) | lst (as : E)
  | nil | cons (a as : E)
  | ix (a b : E) | slc (a lo hi : E)
  | call (f : Nat) (as : E) | bi (f : Bi) (as : E) | me (m : Me) (o as : E)
  | isi (a : E) (t : List Ty) (multi : Bool)
  | rng (as : E) | enm (a : E) | zp (a b : E) | itm (a : E)
  | lc (own : List Nat) (tg src cond elt : E)

/-! ### operations on data -/
def linesz : Nat := 16777216
def b2i (b : Bool) : Int := if b then 1 else 0
def getC (S : Store) (n : Nat) : Option Cell := S[n]?
/-- the items of a list or a tuple -/
def seqD (S : Store) : D → Option (List D)
  | .tup ds => some ds
  | .ref n => match S[n]? with
    | some (.lst ds) => some ds
    | some (.ro ds) => some ds
    | _ => none
  | _ => none
def truD (S : Store) : D → Option Bool
  | .non => some false
  | .bl b => some b
  | .int i => some (i != 0)
  | .str x => if x.length ≤ linesz then some ((x.length : Int) != 0) else none
  | .tup ds => some !ds.isEmpty
  | .ref n => match S[n]? with
    | some (.lst ds) => some !ds.isEmpty
    | some (.ro ds) => some !ds.isEmpty
    | _ => none
  | .exc _ => none

mutual
/-- data as PyData; rf tells of the cells -/
def toPyW (rf : Nat → Option PyData) : D → Option PyData
  | .non => some .none
  | .bl b => some (.bool b)
  | .int i => some (.int i)
  | .str x => some (.str x)
  | .tup ds => (toPysW rf ds).map .tuple
  | .ref n => rf n
  | .exc _ => none
def toPysW (rf : Nat → Option PyData) : List D → Option (List PyData)
  | [] => some []
  | d :: ds => match toPyW rf d, toPysW rf ds with
    | some x, some xs => some (x :: xs)
    | _, _ => none
end
def toPyN (S : Store) : Nat → Nat → Option PyData
  | 0, _ => none
  | n + 1, m => match S[m]? with
    | some (.lst ds) => (toPysW (toPyN S n) ds).map .list
    | some (.ro ds) => (toPysW (toPyN S n) ds).map .list
    | _ => none
def toPy (S : Store) (d : D) : Option PyData := toPyW (toPyN S 6) d

/-- == -/
def eqD (S : Store) (x y : D) : Option Bool :=
  match x, y with
  | .int i, .int j => some (decide (i = j))
  | .str a, .str b => some (decide (a = b))
  | .bl a, .bl b => some (decide (a = b))
  | .non, .non => some true
  | x, y => match toPy S x, toPy S y with
    | some a, some b => if SeqAt.shaped a && SeqAt.shaped b then some (PyData.eqv a b) else none
    | _, _ => none

/-- what may be compared by «in» -/
def flatD : D → Bool
  | .non => true | .bl _ => true | .int _ => true | .str _ => true
  | _ => false
def eqF : D → D → Bool
  | .int i, .int j => i == j
  | .int i, .bl b => i == (if b then 1 else 0)
  | .bl b, .int i => (if b then 1 else 0) == i
  | .bl a, .bl b => a == b
  | .str a, .str b => decide (a = b)
  | .non, .non => true
  | _, _ => false
def inF (x : D) (xs : List D) : Bool := xs.any fun y => eqF y x

def keyOf : D → Option L2.Key
  | .int i => some (.inl i)
  | .str x => some (.inr x)
  | _ => none
def keysOf : List D → Option (List L2.Key)
  | [] => some []
  | d :: ds => match keyOf d, keysOf ds with
    | some k, some ks => some (k :: ks)
    | _, _ => none

def bin2 (o : B2) (x y : D) (S : Store) : R D :=
  match o, x, y with
  | .add, .int i, .int j => .ok (.int (i + j)) S
  | .add, .str a, .str b => if a.length + b.length ≤ linesz then .ok (.str (a ++ b)) S else .bad
  | .add, .tup a, .tup b => if a.length + b.length ≤ linesz then .ok (.tup (a ++ b)) S else .bad
  | .add, .ref l, .ref m => match S[l]?, S[m]? with
    | some (.lst a), some (.lst b) => if a.length + b.length ≤ linesz then .ok (.ref S.length) (S ++ [.lst (a ++ b)]) else .bad
    | _, _ => .bad
  | .sub, .int i, .int j => .ok (.int (i - j)) S
  | .mul, .int i, .int j => if (-18446744073709551616 < i ∧ i < 18446744073709551616) ∨ (-18446744073709551616 < j ∧ j < 18446744073709551616) then .ok (.int (i * j)) S else .bad
  | .mul, .ref l, .int k => match S[l]? with
    | some (.lst a) => if -9223372036854775808 ≤ k ∧ k < 9223372036854775808 ∧ a.length * k.toNat ≤ linesz then .ok (.ref S.length) (S ++ [.lst (List.replicate k.toNat a).flatten]) else .bad
    | _ => .bad
  | .fdiv, .int i, .int j => if 0 < j ∧ j < 1073741824 then .ok (.int (i / j)) S else .bad
  | .mod, .int i, .int j => if 0 < j then .ok (.int (i % j)) S else .bad
  | .pow, .int i, .int j => if 0 ≤ j ∧ j ≤ 1000000 ∧ i.natAbs < 18446744073709551616 then .ok (.int (i ^ j.toNat)) S else .bad
  | _, _, _ => .bad

def lexD : List D → List D → Option Bool
  | [], [] => some false
  | [], .int _ :: r => (lexD [] r).map fun _ => true
  | .int _ :: r, [] => (lexD r []).map fun _ => false
  | .int i :: xs, .int j :: ys => (lexD xs ys).map fun b => if i = j then b else decide (i < j)
  | _, _ => none

def cmp2 (o : CO) (x y : D) (S : Store) : Option Bool :=
  match o, x, y with
  | .eq, x, y => eqD S x y
  | .ne, x, y => (eqD S x y).map fun b => !b
  | .lt, .int i, .int j => some (decide (i < j))
  | .le, .int i, .int j => some (decide (i ≤ j))
  | .gt, .int i, .int j => some (decide (j < i))
  | .ge, .int i, .int j => some (decide (j ≤ i))
  | .lt, .tup a, .tup b => lexD a b
  | .is, .bl a, .bl b => some (decide (a = b))
  | .isnot, .bl a, .bl b => some (!decide (a = b))
  | .is, x, .non => match x with | .exc _ => none | .non => some true | _ => some false
  | .isnot, x, .non => match x with | .exc _ => none | .non => some false | _ => some true
  | .in_, x, .tup ds => if flatD x && ds.all flatD then some (inF x ds) else none
  | .notin, x, .tup ds => if flatD x && ds.all flatD then some !(inF x ds) else none
  | .in_, x, .ref n => match S[n]? with
    | some (.lst ds) => if flatD x && ds.all flatD then some (inF x ds) else none
    | some (.ro ds) => if flatD x && ds.all flatD then some (inF x ds) else none
    | _ => none
  | .notin, x, .ref n => match S[n]? with
    | some (.lst ds) => if flatD x && ds.all flatD then some !(inF x ds) else none
    | some (.ro ds) => if flatD x && ds.all flatD then some !(inF x ds) else none
    | _ => none
  | _, _, _ => none
def cmpR (o : CO) (x y : D) (S : Store) : R D := match cmp2 o x y S with
  | some b => .ok (.bl b) S
  | none => .bad

/-- xs[i] -/
def atD (ds : List D) (i : Int) : Option D := L2.atI ds i
def ix2 (x y : D) (S : Store) : R D :=
  match x, y with
  | .tup ds, .int i => match L2.atI ds i with | some d => .ok d S | none => .bad
  | .ref n, .int i => match S[n]? with
    | some (.lst ds) => match L2.atI ds i with | some d => .ok d S | none => .bad
    | some (.ro ds) => match L2.atI ds i with | some d => .ok d S | none => .bad
    | _ => .bad
  | .str z, .int i => if z.length ≤ linesz then match L2.atI z.cps.toList i with | some c => .ok (.str ⟨#[c]⟩) S | none => .bad else .bad
  | _, _ => .bad
def cutD (xs : List D) (lo hi : Option Int) : List D := (xs.drop (HT.sIx xs.length 0 lo)).take (HT.sIx xs.length xs.length hi - HT.sIx xs.length 0 lo)
def slc2 (x : D) (lo hi : Option Int) (S : Store) : R D :=
  match x with
  | .tup ds => .ok (.tup (cutD ds lo hi)) S
  | .ref n => match S[n]? with
    | some (.lst ds) => .ok (.ref S.length) (S ++ [.lst (cutD ds lo hi)])
    | some (.ro ds) => .ok (.ref S.length) (S ++ [.lst (cutD ds lo hi)])
    | _ => .bad
  | _ => .bad

def blsD : List D → Option (List Bool)
  | [] => some []
  | .bl b :: r => (blsD r).map fun bs => b :: bs
  | _ :: _ => none
def intsD : List D → Option (List Int)
  | [] => some []
  | .int b :: r => (intsD r).map fun bs => b :: bs
  | _ :: _ => none

def biD (f : Bi) (ds : List D) (S : Store) : R D :=
  match f, ds with
  | .len, [.str x] => if x.length ≤ linesz then .ok (.int x.length) S else .bad
  | .len, [x] => match seqD S x with | some xs => .ok (.int xs.length) S | none => .bad
  | .abs, [.int i] => .ok (.int (if i < 0 then -i else i)) S
  | .min2, [.int i, .int j] => .ok (.int (if j < i then j else i)) S
  | .max2, [.int i, .int j] => .ok (.int (if j > i then j else i)) S
  | .min3, [.int i, .int j, .int k] => .ok (.int (if k < (if j < i then j else i) then k else if j < i then j else i)) S
  | .max3, [.int i, .int j, .int k] => .ok (.int (if (if i < j then j else i) < k then k else if i < j then j else i)) S
  | .int, [.int i] => .ok (.int i) S
  | .int, [.bl b] => .ok (.int (if b then 1 else 0)) S
  | .str, [.int i] => if i.natAbs.log2 < 1920 then .ok (.str (toString i)) S else .bad
  | .tuple, [x] => match seqD S x with | some xs => .ok (.tup xs) S | none => .bad
  | .list, [x] => match seqD S x with | some xs => .ok (.ref S.length) (S ++ [.lst xs]) | none => .bad
  | .any, [.ref n] => match (seqD S (.ref n)).bind blsD with | some bs => .ok (.bl (bs.any id)) S | none => .bad
  | .all, [.ref n] => match (seqD S (.ref n)).bind blsD with | some bs => .ok (.bl (bs.all id)) S | none => .bad
  | .sum, [.ref n] => match (seqD S (.ref n)).bind intsD with | some bs => .ok (.int bs.sum) S | none => .bad
  | _, _ => .bad

def meD (m : Me) (o : D) (ds : List D) (S : Store) : R D :=
  match m, o, ds with
  | .append, .ref n, [d] => match S[n]? with
    | some (.lst xs) => if xs.length < linesz then .ok .non (S.set n (.lst (xs ++ [d]))) else .bad
    | _ => .bad
  | _, _, _ => .bad

/-- the receiver is of the method's type -/
def meOk (m : Me) (o : D) (S : Store) : Bool := match m, o with
  | .append, .ref n => match S[n]? with
    | some (.lst _) => true
    | _ => false
  | _, _ => false
def isTy (S : Store) (t : Ty) : D → Option Bool
  | .non => some false
  | .bl _ => some (t == .bool || t == .int)
  | .int _ => some (t == .int)
  | .str _ => some (t == .str)
  | .tup _ => some (t == .tuple)
  | .ref n => match S[n]? with
    | some (.lst _) => some (t == .list)
    | some (.ro _) => some (t == .list)
    | some (.dct _) => some (t == .dict)
    | _ => none
  | .exc _ => none
def isTys (S : Store) (x : D) : List Ty → Option Bool
  | [] => some false
  | t :: ts => match isTy S t x, isTys S x ts with
    | some a, some b => some (a || b)
    | _, _ => none

/-! ### the evaluator -/
/-- what a loop walks: its items, and the cell that must stay as it is -/
structure It where
  ds : List D
  lk : Option (Nat × Cell)
def ckS (lk : Option (Nat × Cell)) (S : Store) : Bool := match lk with
  | none => true
  | some (n, c) => decide (S[n]? = some c)
def wipeE (ρ : Env) : List Nat → Env
  | [] => ρ
  | v :: vs => (wipeE ρ vs).set v none
/-- a target of names -/
def asgT : E → D → Env → Option Env
  | .var i, d, ρ => some (ρ.set i (some d))
  | .tup ts, .tup ds, ρ => asgTs ts ds ρ
  | _, _, _ => none
where asgTs : E → List D → Env → Option Env
  | .nil, [], ρ => some ρ
  | .cons (.var i) ts, d :: ds, ρ => asgTs ts ds (ρ.set i (some d))
  | _, _, _ => none

def lcL (n : Nat) (ck : Store → Bool) (f : D → Store → R (Option D)) : List D → Store → R Unit
  | [], S => bif ck S then .ok () S else .bad
  | x :: xs, S => bif ck S then (match f x S with
    | .ok none S' => lcL n ck f xs S'
    | .ok (some d) S' => match S'[n]? with
      | some (.lst acc) => if acc.length < linesz then lcL n ck f xs (S'.set n (.lst (acc ++ [d]))) else .bad
      | _ => .bad
    | _ => .bad) else .bad
def rngD (lo : Int) (n : Nat) : List D := (List.range n).map fun (i : Nat) => D.int (lo + i)
def itD (x : D) (S : Store) : R It :=
  match x with
  | .tup ds => .ok ⟨ds, none⟩ S
  | .ref n => match S[n]? with
    | some (.lst ds) => .ok ⟨ds, some (n, .lst ds)⟩ S
    | some (.ro ds) => .ok ⟨ds, some (n, .ro ds)⟩ S
    | _ => .bad
  | _ => .bad
def rgD : List D → Option It
  | [.int n] => if -4611686018427387904 ≤ n ∧ n < 4611686018427387904 then some ⟨rngD 0 n.toNat, none⟩ else none
  | [.int a, .int b] => if -4611686018427387904 ≤ a ∧ a < 4611686018427387904 ∧ -4611686018427387904 ≤ b ∧ b < 4611686018427387904 then some ⟨rngD a (b - a).toNat, none⟩ else none
  | _ => none

/-- what an expression means: as a value, a test, an argument list, a part of a slice, an iterable -/
structure Den where
  v : Env → Store → R D
  t : Env → Store → R Bool
  a : Env → Store → R (List D)
  o : Env → Store → R (Option Int)
  i : Env → Store → R It
def truR (x : D) (S : Store) : R Bool := match truD S x with | some b => .ok b S | none => .bad
def cmpT (o : CO) (x y : D) (S : Store) : R Bool := match cmp2 o x y S with | some t => .ok t S | none => .bad
def optR (x : D) (S : Store) : R (Option Int) := match x with | .int i => .ok (some i) S | _ => .bad
def ofVT (v : Env → Store → R D) (t : Env → Store → R Bool) : Den where
  v := v
  t := t
  a := fun _ _ => .bad
  o := fun ρ S => (v ρ S).bind optR
  i := fun ρ S => (v ρ S).bind itD
def ofV (v : Env → Store → R D) : Den := ofVT v fun ρ S => (v ρ S).bind truR
def ofA (a : Env → Store → R (List D)) (o : Env → Store → R (Option Int)) : Den where
  v := fun _ _ => .bad
  t := fun _ _ => .bad
  a := a
  o := o
  i := fun _ _ => .bad
def varR (i : Nat) (ρ : Env) (S : Store) : R D := match ρ[i]? with | some (some d) => .ok d S | _ => .bad
def negR (x : D) (S : Store) : R D := match x with | .int i => .ok (.int (-i)) S | _ => .bad
def andR (k : Store → R D) (x : D) (S : Store) : R D := match truD S x with
  | some true => k S
  | some false => .ok x S
  | none => .bad
def orR (k : Store → R D) (x : D) (S : Store) : R D := match truD S x with
  | some true => .ok x S
  | some false => k S
  | none => .bad
def tupR (ds : List D) (S : Store) : R D := if ds.length ≤ linesz then .ok (.tup ds) S else .bad
def lstR (ds : List D) (S : Store) : R D := if ds.length ≤ linesz then .ok (.ref S.length) (S ++ [.lst ds]) else .bad
def isiR (ts : List Ty) (x : D) (S : Store) : R D := match isTys S x ts with | some b => .ok (.bl b) S | none => .bad
def rngR (ds : List D) (S : Store) : R It := match rgD ds with | some it => .ok it S | none => .bad
def chainV (o1 o2 : CO) (c : Store → R D) (x y : D) (S : Store) : R D := match cmp2 o1 x y S with
  | some true => (c S).bind fun z S3 => cmpR o2 y z S3
  | some false => .ok (.bl false) S
  | none => .bad
def chainT (o1 o2 : CO) (c : Store → R D) (x y : D) (S : Store) : R Bool := match cmp2 o1 x y S with
  | some true => (c S).bind fun z S3 => cmpT o2 y z S3
  | some false => .ok false S
  | none => .bad
def lcF (own : List Nat) (tg : E) (cond : Env → Store → R Bool) (elt : Env → Store → R D) (ρ : Env) (x : D) (S : Store) : R (Option D) :=
  match asgT tg x (wipeE ρ own) with
  | none => .bad
  | some ρ2 => (cond ρ2 S).bind fun b S2 => bif b then (elt ρ2 S2).bind fun d S3 => .ok (some d) S3 else .ok none S2
def lcR (own : List Nat) (tg : E) (cond : Env → Store → R Bool) (elt : Env → Store → R D) (ρ : Env) (it : It) (S : Store) : R D :=
  (lcL S.length (ckS it.lk) (lcF own tg cond elt ρ) it.ds (S ++ [.lst []])).bind fun _ S4 => .ok (.ref S.length) S4

section
variable (P : Nat → List D → Store → R D)
def den : E → Den
  | .var i => ofV (varR i)
  | .non => ofV fun _ S => .ok .non S
  | .bl b => ofV fun _ S => .ok (.bl b) S
  | .int i => ofV fun _ S => .ok (.int i) S
  | .str x => ofV fun _ S => .ok (.str x) S
  | .glb _ d => ofV fun _ S => .ok d S
  | .bin o a b => ofV fun ρ S => ((den a).v ρ S).bind fun x S1 => ((den b).v ρ S1).bind fun y S2 => bin2 o x y S2
  | .neg a => ofV fun ρ S => ((den a).v ρ S).bind negR
  | .cmp o a b => ofVT (fun ρ S => ((den a).v ρ S).bind fun x S1 => ((den b).v ρ S1).bind fun y S2 => cmpR o x y S2)
      (fun ρ S => ((den a).v ρ S).bind fun x S1 => ((den b).v ρ S1).bind fun y S2 => cmpT o x y S2)
  | .chain o1 o2 a b c => ofVT (fun ρ S => ((den a).v ρ S).bind fun x S1 => ((den b).v ρ S1).bind fun y S2 => chainV o1 o2 ((den c).v ρ) x y S2)
      (fun ρ S => ((den a).v ρ S).bind fun x S1 => ((den b).v ρ S1).bind fun y S2 => chainT o1 o2 ((den c).v ρ) x y S2)
  | .not a => ofVT (fun ρ S => ((den a).v ρ S).bind fun x S1 => (truR x S1).bind fun b S2 => .ok (.bl (!b)) S2) (fun ρ S => ((den a).t ρ S).bind fun b S1 => .ok (!b) S1)
  | .and a b => ofVT (fun ρ S => ((den a).v ρ S).bind fun x S1 => andR ((den b).v ρ) x S1) (fun ρ S => ((den a).t ρ S).bind fun t S1 => bif t then (den b).t ρ S1 else .ok false S1)
  | .or a b => ofVT (fun ρ S => ((den a).v ρ S).bind fun x S1 => orR ((den b).v ρ) x S1) (fun ρ S => ((den a).t ρ S).bind fun t S1 => bif t then .ok true S1 else (den b).t ρ S1)
  | .ite c a b => ofVT (fun ρ S => ((den c).t ρ S).bind fun t S1 => bif t then (den a).v ρ S1 else (den b).v ρ S1) (fun _ _ => .bad)
  | .tup as => ofV fun ρ S => ((den as).a ρ S).bind tupR
  | .lst as => ofV fun ρ S => ((den as).a ρ S).bind lstR
  | .nil => ofA (fun _ S => .ok [] S) (fun _ S => .ok none S)
  | .cons a as => ofA (fun ρ S => ((den a).v ρ S).bind fun x S1 => ((den as).a ρ S1).bind fun xs S2 => .ok (x :: xs) S2) (fun _ _ => .bad)
  | .ix a b => ofV fun ρ S => ((den a).v ρ S).bind fun x S1 => ((den b).v ρ S1).bind fun y S2 => ix2 x y S2
  | .slc a lo hi => ofV fun ρ S => ((den a).v ρ S).bind fun x S1 => ((den lo).o ρ S1).bind fun l S2 => ((den hi).o ρ S2).bind fun h S3 => slc2 x l h S3
  | .call f as => ofV fun ρ S => ((den as).a ρ S).bind fun ds S1 => P f ds S1
  | .bi f as => ofV fun ρ S => ((den as).a ρ S).bind fun ds S1 => biD f ds S1
  | .me m o as => ofV fun ρ S => ((den o).v ρ S).bind fun x S1 => bif meOk m x S1 then ((den as).a ρ S1).bind fun ds S2 => meD m x ds S2 else .bad
  | .isi a ts _ => ofV fun ρ S => ((den a).v ρ S).bind fun x S1 => isiR ts x S1
  | .rng as => { ofA (fun _ _ => .bad) (fun _ _ => .bad) with i := fun ρ S => ((den as).a ρ S).bind rngR }
  | .enm _ => ofA (fun _ _ => .bad) (fun _ _ => .bad)
  | .zp _ _ => ofA (fun _ _ => .bad) (fun _ _ => .bad)
  | .itm _ => ofA (fun _ _ => .bad) (fun _ _ => .bad)
  | .lc own tg src cond elt => ofV fun ρ S => ((den src).i ρ S).bind fun it S1 => lcR own tg (den cond).t (den elt).v ρ it S1
def ev (e : E) (ρ : Env) (S : Store) : R D := (den P e).v ρ S
def tst (e : E) (ρ : Env) (S : Store) : R Bool := (den P e).t ρ S
def evs (e : E) (ρ : Env) (S : Store) : R (List D) := (den P e).a ρ S
def evo (e : E) (ρ : Env) (S : Store) : R (Option Int) := (den P e).o ρ S
def itr (e : E) (ρ : Env) (S : Store) : R It := (den P e).i ρ S
end

/-! ### statements -/
/-- statements -/
inductive C where
  | skip | seq (a b : C) | ex (e : E) | asg (tg e : E) | aug (i : Nat) (o : B2) (e : E) | ret (e : E) | retN
  | ite (c : E) (a b : C) | whl (n : Nat) (c : E) (b : C) | for (tg it : E) (b : C) | brk | cnt | pass
  | raise (c : Nat)
def O.seq (o : O) (k : Env → Store → O) : O := match o with
  | .nx ρ S => k ρ S
  | o => o
def forL (ck : Store → Bool) (f : D → Env → Store → O) : List D → Env → Store → O
  | [], ρ, S => bif ck S then .nx ρ S else .bad
  | x :: xs, ρ, S => bif ck S then (match f x ρ S with
    | .nx ρ' S' => forL ck f xs ρ' S'
    | .ct ρ' S' => forL ck f xs ρ' S'
    | .bk ρ' S' => .nx ρ' S'
    | o => o) else .bad
def whlL (t : Env → Store → R Bool) (f : Env → Store → O) : Nat → Env → Store → O
  | 0, _, _ => .bad
  | n + 1, ρ, S => O.of ρ (t ρ S) fun b S1 => bif b then (match f ρ S1 with
    | .nx ρ' S' => whlL t f n ρ' S'
    | .ct ρ' S' => whlL t f n ρ' S'
    | .bk ρ' S' => .nx ρ' S'
    | o => o) else .nx ρ S1
/-- a store through a target -/
def asgO (tg : E) (d : D) (ρ : Env) (S : Store) : O := match asgT tg d ρ with
  | some ρ' => .nx ρ' S
  | none => .bad
/-- name op= e: of ints, or of texts with + -/
def augB (o : B2) (x y : D) (S : Store) : R D := match o, x, y with
  | .add, .int i, .int j => .ok (.int (i + j)) S
  | .add, .str a, .str b => if a.length + b.length ≤ linesz then .ok (.str (a ++ b)) S else .bad
  | .sub, .int i, .int j => .ok (.int (i - j)) S
  | _, _, _ => .bad
section
variable (P : Nat → List D → Store → R D)
def run : C → Env → Store → O
  | .skip, ρ, S => .nx ρ S
  | .pass, ρ, S => .nx ρ S
  | .seq a b, ρ, S => (run a ρ S).seq (run b)
  | .ex e, ρ, S => O.of ρ (ev P e ρ S) fun _ S1 => .nx ρ S1
  | .asg tg e, ρ, S => O.of ρ (ev P e ρ S) fun d S1 => asgO tg d ρ S1
  | .aug i o e, ρ, S => match ρ[i]? with
    | some (some x) => O.of ρ (ev P e ρ S) fun d S1 => O.of ρ (augB o x d S1) fun z S2 => .nx (ρ.set i (some z)) S2
    | _ => .bad
  | .ret e, ρ, S => O.of ρ (ev P e ρ S) fun d S1 => .ret d S1
  | .retN, _, S => .ret .non S
  | .ite c a b, ρ, S => O.of ρ (tst P c ρ S) fun t S1 => bif t then run a ρ S1 else run b ρ S1
  | .whl n c b, ρ, S => whlL (tst P c) (run b) n ρ S
  | .for tg it b, ρ, S => O.of ρ (itr P it ρ S) fun w S1 => forL (ckS w.lk) (fun x ρ S => (asgO tg x ρ S).seq (run b)) w.ds ρ S1
  | .brk, ρ, S => .bk ρ S
  | .cnt, ρ, S => .ct ρ S
  | .raise c, ρ, S => .exc c [] ρ S
end

/-! ### defs -/
structure Fn where
  np : Nat
  nl : Nat
  body : C
mutual
/-- the cells that data name -/
def D.refs : D → List Nat
  | .tup ds => D.refsL ds
  | .ref n => [n]
  | _ => []
def D.refsL : List D → List Nat
  | [] => []
  | d :: ds => D.refs d ++ D.refsL ds
end
mutual
def D.ren (f : Nat → Nat) : D → D
  | .tup ds => .tup (D.renL f ds)
  | .ref n => .ref (f n)
  | d => d
def D.renL (f : Nat → Nat) : List D → List D
  | [] => []
  | d :: ds => D.ren f d :: D.renL f ds
end
def Cell.refs : Cell → List Nat
  | .lst ds => D.refsL ds
  | .ro ds => D.refsL ds
  | .dct kvs => D.refsL (kvs.map (·.2))
  | .ins _ fs => D.refsL (fs.map (·.2))
def Cell.ren (f : Nat → Nat) : Cell → Cell
  | .lst ds => .lst (D.renL f ds)
  | .ro ds => .ro (D.renL f ds)
  | .dct kvs => .dct (kvs.map fun kv => (kv.1, D.ren f kv.2))
  | .ins c fs => .ins c (fs.map fun kv => (kv.1, D.ren f kv.2))
/-- the cells from n0 on that are met from a list of them: fuel turns -/
def reach (S : Store) (n0 : Nat) : Nat → List Nat → List Nat → List Nat
  | 0, _, acc => acc
  | _ + 1, [], acc => acc
  | k + 1, n :: r, acc => if n < n0 ∨ n ∈ acc then reach S n0 k r acc else
    match S[n]? with
    | some c => reach S n0 k (c.refs ++ r) (acc ++ [n])
    | none => reach S n0 k r acc
def renOf (n0 : Nat) (L : List Nat) (n : Nat) : Nat := if n < n0 then n else n0 + L.findIdx (· == n)
/-- behind a call: what the def made and nobody names is forgotten, where it wrote no elder cell -/
def fin (S0 : Store) (d : D) (S : Store) : R D :=
  if S.take S0.length = S0 then
    match d.refs with
    | [] => .ok d S0
    | rs =>
      let L := reach S S0.length 100000 rs []
      if (L.flatMap fun n => match S[n]? with | some c => c.refs | none => []).all (fun n => decide (n < S0.length) || decide (n ∈ L)) && rs.all (fun n => decide (n < S0.length) || decide (n ∈ L)) && decide L.Nodup
          && L.all (fun n => decide (S0.length ≤ n)) && L.all (fun n => decide (n < S.length)) then
        .ok (d.ren (renOf S0.length L)) (S0 ++ L.filterMap fun n => (S[n]?).map (Cell.ren (renOf S0.length L)))
      else .ok d S
  else .ok d S
def finX (S0 S : Store) : Store := if S.take S0.length = S0 then S0 else S
def finO (S0 : Store) (o : O) : R D := match o with
  | .nx _ S => fin S0 .non S
  | .ret d S => fin S0 d S
  | .exc c fs _ S => .exc c fs (if fs.isEmpty then finX S0 S else S)
  | _ => .bad
/-- a call of the f-th def, k calls deep -/
def callN (Fs : List Fn) : Nat → Nat → List D → Store → R D
  | 0, _, _, _ => .bad
  | k + 1, f, ds, S => match Fs[f]? with
    | some fn => if ds.length = fn.np then finO S (run (callN Fs k) fn.body (ds.map some ++ List.replicate (fn.nl - ds.length) none) S) else .bad
    | none => .bad
end Ng

set_option Elab.async false
set_option linter.all false
set_option maxRecDepth 100000
set_option maxHeartbeats 2000000
/-! The engine's data and stores as they lie in the abstract heap. -/
namespace Ng
open PySem PySem.Spec PyProof.Rows L2

abbrev Mu := List Addr
mutual
inductive RepV (K : PySem.W.Frag) (H : Hp) (μ : Mu) : D → V → Prop
  | non : RepV K H μ .non .non
  | bl (b : Bool) : RepV K H μ (.bl b) (.bl b)
  | int (i : Int) : RepV K H μ (.int i) (.int i)
  | str (x : Str) : RepV K H μ (.str x) (.str x)
  | tup {a : Addr} {vs : List V} {ds : List D} : SqT K H a vs → RepVs K H μ ds vs → RepV K H μ (.tup ds) (.ref a)
  | ref {n : Nat} {a : Addr} : μ[n]? = some a → RepV K H μ (.ref n) (.ref a)
inductive RepVs (K : PySem.W.Frag) (H : Hp) (μ : Mu) : List D → List V → Prop
  | nil : RepVs K H μ [] []
  | cons {d : D} {v : V} {ds : List D} {vs : List V} : RepV K H μ d v → RepVs K H μ ds vs → RepVs K H μ (d :: ds) (v :: vs)
end

/-- what the later heap still knows -/
structure Le (K : PySem.W.Frag) (μ : Mu) (H : Hp) (μ' : Mu) (H' : Hp) : Prop where
  pre : ∃ t, μ' = μ ++ t
  tup : ∀ a xs, SqT K H a xs → SqT K H' a xs
theorem Le.refl {K μ H} : Le K μ H μ H := ⟨⟨[], by simp⟩, fun _ _ h => h⟩
theorem Le.trans {K μ H μ1 H1 μ2 H2} (a : Le K μ H μ1 H1) (b : Le K μ1 H1 μ2 H2) : Le K μ H μ2 H2 := by
  obtain ⟨t, rfl⟩ := a.pre
  obtain ⟨u, rfl⟩ := b.pre
  exact ⟨⟨t ++ u, by simp⟩, fun x xs h => b.tup x xs (a.tup x xs h)⟩
theorem Le.at {K μ H μ' H'} (l : Le K μ H μ' H') {n : Nat} {a : Addr} (h : μ[n]? = some a) : μ'[n]? = some a := by
  obtain ⟨t, rfl⟩ := l.pre
  rw [List.getElem?_append_left (List.getElem?_eq_some_iff.mp h).1]
  exact h
section
variable {K : PySem.W.Frag} {μ μ' : Mu} {H H' : Hp}
mutual
theorem RepV.mono (l : Le K μ H μ' H') : ∀ {d : D} {v : V}, RepV K H μ d v → RepV K H' μ' d v
  | _, _, .non => .non
  | _, _, .bl b => .bl b
  | _, _, .int i => .int i
  | _, _, .str x => .str x
  | _, _, .tup h r => .tup (l.tup _ _ h) (RepVs.mono l r)
  | _, _, .ref h => .ref (l.at h)
theorem RepVs.mono (l : Le K μ H μ' H') : ∀ {ds : List D} {vs : List V}, RepVs K H μ ds vs → RepVs K H' μ' ds vs
  | _, _, .nil => .nil
  | _, _, .cons h r => .cons (RepV.mono l h) (RepVs.mono l r)
end
theorem RepVs.length : ∀ {ds : List D} {vs : List V}, RepVs K H μ ds vs → vs.length = ds.length
  | _, _, .nil => rfl
  | _, _, .cons _ r => by simp [RepVs.length r]
theorem RepVs.append : ∀ {ds es : List D} {vs ws : List V}, RepVs K H μ ds vs → RepVs K H μ es ws → RepVs K H μ (ds ++ es) (vs ++ ws)
  | _, _, _, _, .nil, s => s
  | _, _, _, _, .cons h r, s => .cons h (RepVs.append r s)
theorem RepVs.get : ∀ {ds : List D} {vs : List V} {i : Nat} {d : D}, RepVs K H μ ds vs → ds[i]? = some d → ∃ v, vs[i]? = some v ∧ RepV K H μ d v
  | _, _, i, d, .nil, e => by simp at e
  | _, _, 0, d, .cons (v := v) h _, e => ⟨v, rfl, by simp at e; rw [← e]; exact h⟩
  | _, _, i + 1, d, .cons h r, e => by
    obtain ⟨v, h1, h2⟩ := RepVs.get (i := i) (d := d) r (by simpa using e)
    exact ⟨v, by simpa using h1, h2⟩
theorem RepVs.drop : ∀ {ds : List D} {vs : List V} (n : Nat), RepVs K H μ ds vs → RepVs K H μ (ds.drop n) (vs.drop n)
  | _, _, 0, r => r
  | _, _, _ + 1, .nil => .nil
  | _, _, n + 1, .cons _ r => RepVs.drop n r
theorem RepVs.take : ∀ {ds : List D} {vs : List V} (n : Nat), RepVs K H μ ds vs → RepVs K H μ (ds.take n) (vs.take n)
  | _, _, 0, _ => .nil
  | _, _, _ + 1, .nil => .nil
  | _, _, n + 1, .cons h r => .cons h (RepVs.take n r)
theorem RepVs.isEmpty {ds : List D} {vs : List V} (r : RepVs K H μ ds vs) : vs.isEmpty = ds.isEmpty := by
  cases r <;> rfl
theorem RepVs.rep {ds : List D} {vs : List V} (r : RepVs K H μ ds vs) : ∀ k : Nat, RepVs K H μ (List.replicate k ds).flatten (List.replicate k vs).flatten
  | 0 => .nil
  | k + 1 => by
    simp only [List.replicate_succ, List.flatten_cons]
    exact r.append (RepVs.rep r k)

/-- a list that is never written -/
def RoL (K : PySem.W.Frag) (H : Hp) (a : Addr) (vs : List V) : Prop :=
  (∃ o, H a = some (.frz o (.lst vs))) ∨
    ∃ (o : Obj) (its : Array Value) (n : Nat), K.lookup a = some o ∧ o.cls = .type "list" ∧ o.dict = none ∧ o.data = .seq its n ∧ its.size ≤ sizeLine ∧ Vals vs its.toList
theorem RoL.sq {a : Addr} {vs : List V} (h : RoL K H a vs) : SqL K H a vs := by
  rcases h with ⟨o, h⟩ | h
  · exact .inl (.inr ⟨o, h⟩)
  · exact .inr h
def RepC (K : PySem.W.Frag) (H : Hp) (μ : Mu) : Cell → Addr → Prop
  | .lst ds, a => ∃ vs, H a = some (.lst vs) ∧ RepVs K H μ ds vs
  | .ro ds, a => ∃ vs, RoL K H a vs ∧ RepVs K H μ ds vs
  | .dct _, _ => False
  | .ins _ _, _ => False
def Cell.isRo : Cell → Bool
  | .ro _ => true
  | _ => false
structure RepS (K : PySem.W.Frag) (H : Hp) (μ : Mu) (S : Store) : Prop where
  len : μ.length = S.length
  cell : ∀ (n : Nat) (c : Cell) (a : Addr), S[n]? = some c → μ[n]? = some a → RepC K H μ c a
  apart : ∀ (m n : Nat) (a : Addr) (c e : Cell), m ≠ n → μ[m]? = some a → μ[n]? = some a → S[m]? = some c → S[n]? = some e → c.isRo = true ∨ e.isRo = true
def RepE (K : PySem.W.Frag) (H : Hp) (μ : Mu) (σ : L2.St) (ρ : Env) : Prop := σ.length = ρ.length ∧ ∀ (i : Nat) d, ρ[i]? = some (some d) → ∃ v, σ[i]? = some (some v) ∧ RepV K H μ d v
structure Sim (K : PySem.W.Frag) (μ : Mu) (σ : L2.St) (H : Hp) (ρ : Env) (S : Store) : Prop where
  e : RepE K H μ σ ρ
  s : RepS K H μ S
theorem RepE.mono {σ : L2.St} {ρ : Env} (l : Le K μ H μ' H') (r : RepE K H μ σ ρ) : RepE K H' μ' σ ρ :=
  ⟨r.1, fun i d h => let ⟨v, h1, h2⟩ := r.2 i d h; ⟨v, h1, h2.mono l⟩⟩
theorem RepS.at {S : Store} (r : RepS K H μ S) {n : Nat} {c : Cell} (h : S[n]? = some c) : ∃ a, μ[n]? = some a ∧ RepC K H μ c a := by
  have hn : n < μ.length := by rw [r.len]; exact (List.getElem?_eq_some_iff.mp h).1
  exact ⟨μ[n], List.getElem?_eq_getElem hn, r.cell n c _ h (List.getElem?_eq_getElem hn)⟩

/-! ### heaps that grow -/
theorem sqT_new {a p : Addr} {xs : List V} {o : HO} (hp : H p = none) (h : SqT K H a xs) : SqT K (upd H p o) a xs := by
  rcases h with (h | ⟨u, h⟩) | h
  · exact .inl (.inl (by rw [upd_ne (ne_of_none h hp)]; exact h))
  · exact .inl (.inr ⟨u, by rw [upd_ne (ne_of_none h hp)]; exact h⟩)
  · exact .inr h
theorem roL_new {a p : Addr} {xs : List V} {o : HO} (hp : H p = none) (h : RoL K H a xs) : RoL K (upd H p o) a xs := by
  rcases h with ⟨u, h⟩ | h
  · exact .inl ⟨u, by rw [upd_ne (ne_of_none h hp)]; exact h⟩
  · exact .inr h
theorem le_new {p : Addr} {o : HO} (hp : H p = none) : Le K μ H μ (upd H p o) := ⟨⟨[], by simp⟩, fun _ _ h => sqT_new hp h⟩
theorem le_newP {p : Addr} {o : HO} (hp : H p = none) : Le K μ H (μ ++ [p]) (upd H p o) := ⟨⟨[p], rfl⟩, fun _ _ h => sqT_new hp h⟩
/-- a new object that no cell stands for -/
theorem RepC.new {p a : Addr} {o : HO} {c : Cell} (hp : H p = none) (r : RepC K H μ c a) : RepC K (upd H p o) μ c a := by
  cases c with
  | lst ds => obtain ⟨vs, h, r⟩ := r; exact ⟨vs, by rw [upd_ne (ne_of_none h hp)]; exact h, r.mono (le_new hp)⟩
  | ro ds => obtain ⟨vs, h, r⟩ := r; exact ⟨vs, roL_new hp h, r.mono (le_new hp)⟩
  | dct _ => exact r
  | ins _ _ => exact r
theorem RepC.more {t : Mu} {a : Addr} {c : Cell} (r : RepC K H μ c a) : RepC K H (μ ++ t) c a := by
  have l : Le K μ H (μ ++ t) H := ⟨⟨t, rfl⟩, fun _ _ h => h⟩
  cases c with
  | lst ds => obtain ⟨vs, h, r⟩ := r; exact ⟨vs, h, r.mono l⟩
  | ro ds => obtain ⟨vs, h, r⟩ := r; exact ⟨vs, h, r.mono l⟩
  | dct _ => exact r
  | ins _ _ => exact r
theorem RepS.new {S : Store} {p : Addr} {o : HO} (hp : H p = none) (r : RepS K H μ S) : RepS K (upd H p o) μ S :=
  ⟨r.len, fun n c a h1 h2 => (r.cell n c a h1 h2).new hp, r.apart⟩
/-- a mutable cell's address is tracked -/
theorem RepC.tracked {a : Addr} {c : Cell} (r : RepC K H μ c a) (h : c.isRo = false) : H a ≠ none := by
  cases c with
  | lst ds => obtain ⟨vs, h, _⟩ := r; rw [h]; simp
  | ro ds => simp [Cell.isRo] at h
  | dct _ => exact r.elim
  | ins _ _ => exact r.elim
theorem get_snoc {α : Type} {l : List α} {x : α} {n : Nat} {y : α} (h : (l ++ [x])[n]? = some y) : l[n]? = some y ∨ (n = l.length ∧ y = x) := by
  by_cases hn : n < l.length
  · rw [List.getElem?_append_left hn] at h; exact .inl h
  · rw [List.getElem?_append_right (by omega)] at h
    have : n - l.length = 0 := by
      cases e : n - l.length with
      | zero => rfl
      | succ k => rw [e] at h; simp at h
    rw [this] at h
    simp at h
    exact .inr ⟨by omega, h.symm⟩
theorem snoc_at {α : Type} {l : List α} {x : α} : (l ++ [x])[l.length]? = some x := by simp
/-- a new cell -/
theorem RepS.alloc {S : Store} {p : Addr} {o : HO} {c : Cell} (hp : H p = none) (r : RepS K H μ S) (new : RepC K (upd H p o) (μ ++ [p]) c p) : RepS K (upd H p o) (μ ++ [p]) (S ++ [c]) := by
  refine ⟨by simp [r.len], fun n e a h1 h2 => ?_, fun m n a e f hmn h1 h2 h3 h4 => ?_⟩
  · rcases get_snoc h1 with h1 | ⟨rfl, rfl⟩
    · rcases get_snoc h2 with h2 | ⟨rfl, rfl⟩
      · exact ((r.cell n e a h1 h2).new hp).more
      · have := (List.getElem?_eq_some_iff.mp h1).1; rw [r.len] at this; omega
    · rw [← r.len, snoc_at] at h2
      cases h2
      exact new
  · have key : ∀ (k : Nat) (g : Cell), μ[k]? = some p → S[k]? = some g → g.isRo = true := fun k g h5 h6 => by
      have rc := r.cell k g p h6 h5
      cases hg : g.isRo with
      | true => rfl
      | false => exact absurd hp (rc.tracked hg)
    rcases get_snoc h1 with g1 | ⟨e1, e2⟩
    · rcases get_snoc h2 with g2 | ⟨e3, e4⟩
      · have hm := (List.getElem?_eq_some_iff.mp g1).1
        have hn := (List.getElem?_eq_some_iff.mp g2).1
        rw [r.len] at hm hn
        rw [List.getElem?_append_left hm] at h3
        rw [List.getElem?_append_left hn] at h4
        exact r.apart m n a e f hmn g1 g2 h3 h4
      · have hm := (List.getElem?_eq_some_iff.mp g1).1
        rw [r.len] at hm
        rw [List.getElem?_append_left hm] at h3
        exact .inl (key m e (by rw [← e4]; exact g1) h3)
    · rcases get_snoc h2 with g2 | ⟨e3, e4⟩
      · have hn := (List.getElem?_eq_some_iff.mp g2).1
        rw [r.len] at hn
        rw [List.getElem?_append_left hn] at h4
        exact .inr (key n f (by rw [← e2]; exact g2) h4)
      · omega
/-! ### a list is written -/
theorem sqT_upd {a p : Addr} {xs vs : List V} {o : HO} (hp : H p = some (.lst vs)) (h : SqT K H a xs) : SqT K (upd H p o) a xs := by
  rcases h with (h | ⟨u, h⟩) | h
  · exact .inl (.inl (by rw [upd_ne (ne_of h hp (by intro z; cases z))]; exact h))
  · exact .inl (.inr ⟨u, by rw [upd_ne (ne_of h hp (by intro z; cases z))]; exact h⟩)
  · exact .inr h
theorem roL_upd {a p : Addr} {xs vs : List V} {o : HO} (hp : H p = some (.lst vs)) (h : RoL K H a xs) : RoL K (upd H p o) a xs := by
  rcases h with ⟨u, h⟩ | h
  · exact .inl ⟨u, by rw [upd_ne (ne_of h hp (by intro z; cases z))]; exact h⟩
  · exact .inr h
theorem le_upd {p : Addr} {vs : List V} {o : HO} (hp : H p = some (.lst vs)) : Le K μ H μ (upd H p o) := ⟨⟨[], by simp⟩, fun _ _ h => sqT_upd hp h⟩
theorem RepS.write {S : Store} {p : Addr} {n : Nat} {vs ws : List V} {xs ds : List D} (r : RepS K H μ S) (hS : S[n]? = some (.lst xs)) (hm : μ[n]? = some p) (hp : H p = some (.lst vs)) (rw' : RepVs K H μ ds ws) :
    RepS K (upd H p (.lst ws)) μ (S.set n (.lst ds)) := by
  have hn := (List.getElem?_eq_some_iff.mp hS).1
  refine ⟨by simp [r.len], fun k c a h1 h2 => ?_, fun k l a c e hkl h1 h2 h3 h4 => ?_⟩
  · by_cases hk : n = k
    · subst hk
      rw [List.getElem?_set_self hn] at h1
      cases h1
      rw [hm] at h2
      cases h2
      exact ⟨ws, upd_same, rw'.mono (le_upd hp)⟩
    · rw [List.getElem?_set_ne hk] at h1
      have rc := r.cell k c a h1 h2
      by_cases ha : a = p
      · subst ha
        rcases r.apart n k a _ c hk hm h2 hS h1 with q | q
        · simp [Cell.isRo] at q
        · cases c with
          | ro es =>
            obtain ⟨us, h, r2⟩ := rc
            exact ⟨us, roL_upd hp h, r2.mono (le_upd hp)⟩
          | _ => simp [Cell.isRo] at q
      · cases c with
        | lst es => obtain ⟨us, h, r2⟩ := rc; exact ⟨us, by rw [upd_ne ha]; exact h, r2.mono (le_upd hp)⟩
        | ro es => obtain ⟨us, h, r2⟩ := rc; exact ⟨us, roL_upd hp h, r2.mono (le_upd hp)⟩
        | dct _ => exact rc
        | ins _ _ => exact rc
  · have ro_of : ∀ (j : Nat) (g : Cell), (S.set n (.lst ds))[j]? = some g → ∃ g', S[j]? = some g' ∧ g'.isRo = g.isRo := fun j g hj => by
      by_cases e : n = j
      · subst e
        rw [List.getElem?_set_self hn] at hj
        cases hj
        exact ⟨_, hS, rfl⟩
      · rw [List.getElem?_set_ne e] at hj
        exact ⟨g, hj, rfl⟩
    obtain ⟨c', h5, e5⟩ := ro_of k c h3
    obtain ⟨e', h6, e6⟩ := ro_of l e h4
    rw [← e5, ← e6]
    exact r.apart k l a c' e' hkl h1 h2 h5 h6
end
end Ng

set_option Elab.async false
set_option linter.all false
set_option maxRecDepth 100000
set_option maxHeartbeats 2000000
/-! Readings by the engine; operations on values. -/
namespace Ng
open PySem PySem.Spec PyProof.Rows L2

/-- an exception's own dict -/
def XD (K : PySem.W.Frag) (H : Hp) (μ : Mu) (fs : List (Str × D)) (d : Option Addr) : Prop :=
  (fs = [] ∧ d = none) ∨ ∃ a gs, d = some a ∧ H a = some (.xd gs) ∧ gs.map (·.1) = fs.map (·.1) ∧ RepVs K H μ (fs.map (·.2)) (gs.map (·.2))
section
variable (K : PySem.W.Frag) (γ : Nat → Value) (W : WX)
/-- what follows an outcome -/
def PostR {α β : Type} (rel : Mu → Hp → α → β → Prop) (μ : Mu) (H : Hp) (σ : L2.St) (ρ : Env) (r : R α) (Q : β → Hp → Prop) : Prop :=
  match r with
  | .ok a S' => ∀ μ' H' b, Le K μ H μ' H' → Sim K μ' σ H' ρ S' → rel μ' H' a b → Q b H'
  | .exc c fs S' => ∀ μ' H' d, Le K μ H μ' H' → Sim K μ' σ H' ρ S' → XD K H' μ' fs d → W (γ c) d σ H'
  | .bad => False
def relV (μ : Mu) (H : Hp) (d : D) (v : V) : Prop := RepV K H μ d v
def relVs (μ : Mu) (H : Hp) (d : List D) (v : List V) : Prop := RepVs K H μ d v
def relEq {α : Type} (_ : Mu) (_ : Hp) (a b : α) : Prop := a = b
def tR {α β : Type} (rel : Mu → Hp → α → β → Prop) (f : Env → Store → R α) (σ : L2.St) (H : Hp) (Q : β → Hp → Prop) : Prop :=
  ∃ μ ρ S, Sim K μ σ H ρ S ∧ PostR K γ W rel μ H σ ρ (f ρ S) Q
def tE (f : Env → Store → R D) : TE := tR K γ W (relV K) f
def tT (f : Env → Store → R Bool) : TT := tR K γ W relEq f
def tA (f : Env → Store → R (List D)) : TA := tR K γ W (relVs K) f
def tO (f : Env → Store → R (Option Int)) : TO := tR K γ W relEq f
end
section
variable {K : PySem.W.Frag} {γ : Nat → Value} {W : WX} {α β α' β' : Type} {rel : Mu → Hp → α → β → Prop} {rel' : Mu → Hp → α' → β' → Prop} {μ μ1 : Mu} {H H1 : Hp} {σ : L2.St} {ρ : Env} {S : Store} {r : R α}
theorem PostR.base {Q : β → Hp → Prop} (l : Le K μ H μ1 H1) (h : PostR K γ W rel μ H σ ρ r Q) : PostR K γ W rel μ1 H1 σ ρ r Q := by
  cases r with
  | ok a S' => exact fun μ' H' b l' => h μ' H' b (l.trans l')
  | exc c fs S' => exact fun μ' H' d l' => h μ' H' d (l.trans l')
  | bad => exact h
theorem PostR.imp {Q Q' : β → Hp → Prop} (h : PostR K γ W rel μ H σ ρ r Q) (q : ∀ b H', Q b H' → Q' b H') : PostR K γ W rel μ H σ ρ r Q' := by
  cases r with
  | ok a S' => exact fun μ' H' b l s rl => q _ _ (h μ' H' b l s rl)
  | exc c fs S' => exact h
  | bad => exact h
/-- one behind the other -/
theorem PostR.bind {k : α → Store → R α'} {Q : β' → Hp → Prop} (h : PostR K γ W rel' μ H σ ρ (r.bind k) Q) :
    PostR K γ W rel μ H σ ρ r fun b H1 => ∃ μ1 S1 a, Le K μ H μ1 H1 ∧ Sim K μ1 σ H1 ρ S1 ∧ rel μ1 H1 a b ∧ PostR K γ W rel' μ1 H1 σ ρ (k a S1) Q := by
  cases r with
  | ok a S' => exact fun μ' H' b l s rl => ⟨μ', S', a, l, s, rl, PostR.base l h⟩
  | exc c fs S' => exact h
  | bad => exact h
/-- an outcome that is there -/
theorem PostR.here {a : α} {b : β} {Q : β → Hp → Prop} (h : PostR K γ W rel μ H σ ρ (.ok a S) Q) (s : Sim K μ σ H ρ S) (rl : rel μ H a b) : Q b H := h μ H b .refl s rl
theorem PostR.later {a : α} {b : β} {Q : β → Hp → Prop} (h : PostR K γ W rel μ H σ ρ (.ok a S) Q) (l : Le K μ H μ1 H1) (s : Sim K μ1 σ H1 ρ S) (rl : rel μ1 H1 a b) : Q b H1 := h μ1 H1 b l s rl
theorem Sim.alloc {p : Addr} {o : HO} {c : Cell} (s : Sim K μ σ H ρ S) (hp : H p = none) (new : RepC K (upd H p o) (μ ++ [p]) c p) : Sim K (μ ++ [p]) σ (upd H p o) ρ (S ++ [c]) :=
  ⟨s.e.mono (le_newP hp), s.s.alloc hp new⟩
theorem Sim.new {p : Addr} {o : HO} (s : Sim K μ σ H ρ S) (hp : H p = none) : Sim K μ σ (upd H p o) ρ S := ⟨s.e.mono (le_new hp), s.s.new hp⟩
theorem Sim.ref (s : Sim K μ σ H ρ S) (p : Addr) : (μ ++ [p])[S.length]? = some p := by rw [← s.s.len]; exact snoc_at
end

/-! ### weaker readings, two readings of one syntax -/
section
variable {X : Cx} {e : Expr} {es : List Expr}
theorem pe_imp {t t' : TE} (h : PE X e t) (i : ∀ σ H Q, t' σ H Q → t σ H Q) : PE X e t' := ⟨fun pins s σ H Q I q => h.run pins s σ H Q I (i σ H Q q)⟩
theorem pt_imp {t t' : TT} (h : PT X e t) (i : ∀ σ H Q, t' σ H Q → t σ H Q) : PT X e t' := ⟨fun pins s σ H Q I q => h.run pins s σ H Q I (i σ H Q q)⟩
theorem pw_imp {t t' : TT} (h : PW X e t) (i : ∀ σ H Q, t' σ H Q → t σ H Q) : PW X e t' := ⟨fun w pins s σ H Q I q => h.run w pins s σ H Q I (i σ H Q q)⟩
theorem pa_imp {t t' : TA} (h : PA X es t) (i : ∀ σ H Q, t' σ H Q → t σ H Q) : PA X es t' := ⟨fun pos pins s σ H Q I q => h.run pos pins s σ H Q I (i σ H Q q)⟩
theorem po_imp {o : Option Expr} {t t' : TO} (h : PO X o t) (i : ∀ σ H Q, t' σ H Q → t σ H Q) : PO X o t' := ⟨fun pins s σ H Q I q => h.run pins s σ H Q I (i σ H Q q)⟩
theorem ps_imp {st : Stmt} {t t' : TS} (h : PS X st t) (i : ∀ D σ H, t' D σ H → t D σ H) : PS X st t' := ⟨fun pins s σ H D I q => h.run pins s σ H D I (i D σ H q)⟩
theorem pss_imp {st : List Stmt} {t t' : TS} (h : PSs X st t) (i : ∀ D σ H, t' D σ H → t D σ H) : PSs X st t' := ⟨fun pins s σ H D I q => h.run pins s σ H D I (i D σ H q)⟩
theorem opR_imp {f : Value → Value → Sem Value} {r r' : R2} (h : OpR X f r) (i : ∀ x y H Q, r' x y H Q → r x y H Q) : OpR X f r' :=
  fun pins s σ H x y v u Q I rx ry q => h pins s σ H x y v u Q I rx ry (i x y H Q q)
theorem unR_imp {f : Value → Sem Value} {r r' : V → Hp → VK → Prop} (h : UnR X f r) (i : ∀ x H Q, r' x H Q → r x H Q) : UnR X f r' :=
  fun pins s σ H x v Q I rx q => h pins s σ H x v Q I rx (i x H Q q)
theorem truR_imp {r r' : V → Hp → (Bool → Hp → Prop) → Prop} (h : TruR X r) (i : ∀ x H Q, r' x H Q → r x H Q) : TruR X r' :=
  fun pins s σ H x v Q I rx q => h pins s σ H x v Q I rx (i x H Q q)
theorem callR_imp {f : Value} {r r' : List V → Hp → VK → Prop} (h : CallR X f r) (i : ∀ xs H Q, r' xs H Q → r xs H Q) : CallR X f r' :=
  fun pins s σ H xs us Q I rx q => h pins s σ H xs us Q I rx (i xs H Q q)
theorem ixR_imp {r r' : R2} (h : IxR X r) (i : ∀ x y H Q, r' x y H Q → r x y H Q) : IxR X r' :=
  fun a b pins s σ H x y v u Q I rx ry q => h a b pins s σ H x y v u Q I rx ry (i x y H Q q)
theorem mtR_imp {id : String} {r r' : V → List V → Hp → VK → Prop} (h : MtR X id r) (i : ∀ x xs H Q, r' x xs H Q → r x xs H Q) : MtR X id r' :=
  fun pins s σ H x xs v us Q I rx ry q => h pins s σ H x xs v us Q I rx ry (i x xs H Q q)
theorem slR_imp {r r' : V → Option Int → Option Int → Hp → VK → Prop} (h : SlR X r) (i : ∀ x l u H Q, r' x l u H Q → r x l u H Q) : SlR X r' :=
  fun pins s σ H x v vl vu lo hi sl Q I rx hs pl pu q => h pins s σ H x v vl vu lo hi sl Q I rx hs pl pu (i x lo hi H Q q)
end

/-! ### what stands behind data -/
section
variable {K : PySem.W.Frag} {γ : Nat → Value} {W : WX} {μ μ1 : Mu} {H H1 : Hp} {σ : L2.St} {ρ : Env} {S : Store}
theorem Sim.list (s : Sim K μ σ H ρ S) {n : Nat} {ds : List D} {v : V} (r : RepV K H μ (.ref n) v) (h : S[n]? = some (.lst ds)) : ∃ a vs, v = .ref a ∧ H a = some (.lst vs) ∧ RepVs K H μ ds vs ∧ μ[n]? = some a := by
  cases r with
  | ref hm =>
    obtain ⟨vs, h1, h2⟩ := s.s.cell n _ _ h hm
    exact ⟨_, vs, rfl, h1, h2, hm⟩
theorem Sim.roL (s : Sim K μ σ H ρ S) {n : Nat} {ds : List D} {v : V} (r : RepV K H μ (.ref n) v) (h : S[n]? = some (.ro ds)) : ∃ a vs, v = .ref a ∧ RoL K H a vs ∧ RepVs K H μ ds vs ∧ μ[n]? = some a := by
  cases r with
  | ref hm =>
    obtain ⟨vs, h1, h2⟩ := s.s.cell n _ _ h hm
    exact ⟨_, vs, rfl, h1, h2, hm⟩
/-- a list or a tuple -/
theorem Sim.seq (s : Sim K μ σ H ρ S) {d : D} {ds : List D} {v : V} (r : RepV K H μ d v) (h : seqD S d = some ds) : ∃ a vs, v = .ref a ∧ (SqL K H a vs ∨ SqT K H a vs) ∧ RepVs K H μ ds vs := by
  cases d with
  | tup es =>
    cases h
    cases r with
    | tup h1 h2 => exact ⟨_, _, rfl, .inr h1, h2⟩
  | ref n =>
    simp only [seqD] at h
    split at h
    · cases h
      obtain ⟨a, vs, e, h1, h2, _⟩ := s.list r (by assumption)
      exact ⟨a, vs, e, .inl (.of h1), h2⟩
    · cases h
      obtain ⟨a, vs, e, h1, h2, _⟩ := s.roL r (by assumption)
      exact ⟨a, vs, e, .inl h1.sq, h2⟩
    · cases h
  | _ => simp [seqD] at h
/-- a new list's outcome -/
theorem PostR.newL {ds : List D} {vs : List V} {Q : VK} (h : PostR K γ W (relV K) μ H σ ρ (.ok (.ref S.length) (S ++ [.lst ds])) Q) (s : Sim K μ σ H ρ S) (r : RepVs K H μ ds vs) :
    ∀ p, H p = none → Q (.ref p) (upd H p (.lst vs)) := fun p hp =>
  h (μ ++ [p]) _ _ (le_newP hp) (s.alloc hp ⟨vs, upd_same, r.mono (le_newP hp)⟩) (.ref (s.ref p))
/-- a new tuple's outcome -/
theorem PostR.newT {ds : List D} {vs : List V} {Q : VK} (h : PostR K γ W (relV K) μ H σ ρ (.ok (.tup ds) S) Q) (s : Sim K μ σ H ρ S) (r : RepVs K H μ ds vs) :
    ∀ p, H p = none → Q (.ref p) (upd H p (.tup vs)) := fun p hp =>
  h μ _ _ (le_new hp) (s.new hp) (.tup (.of upd_same) (r.mono (le_new hp)))
theorem Sim.write (s : Sim K μ σ H ρ S) {n : Nat} {p : Addr} {vs ws : List V} {xs ds : List D} (hS : S[n]? = some (.lst xs)) (hm : μ[n]? = some p) (hp : H p = some (.lst vs)) (r : RepVs K H μ ds ws) :
    Sim K μ σ (upd H p (.lst ws)) ρ (S.set n (.lst ds)) := ⟨s.e.mono (le_upd hp), s.s.write hS hm hp r⟩

/-! ### operators -/
theorem linesz_eq : linesz = sizeLine := by rw [sizeLine_eq]; rfl
section
variable (K : PySem.W.Frag) (γ : Nat → Value) (W : WX)
/-- an operation on data, by values -/
def opV (f : D → D → Store → R D) : R2 := fun x y H Q => ∃ μ σ ρ S d e, Sim K μ σ H ρ S ∧ RepV K H μ d x ∧ RepV K H μ e y ∧ PostR K γ W (relV K) μ H σ ρ (f d e S) Q
def unV (f : D → Store → R D) : V → Hp → VK → Prop := fun x H Q => ∃ μ σ ρ S d, Sim K μ σ H ρ S ∧ RepV K H μ d x ∧ PostR K γ W (relV K) μ H σ ρ (f d S) Q
def truV (f : D → Store → R Bool) : V → Hp → (Bool → Hp → Prop) → Prop := fun x H Q => ∃ μ σ ρ S d, Sim K μ σ H ρ S ∧ RepV K H μ d x ∧ PostR K γ W relEq μ H σ ρ (f d S) Q
def callV (f : List D → Store → R D) : List V → Hp → VK → Prop := fun xs H Q => ∃ μ σ ρ S ds, Sim K μ σ H ρ S ∧ RepVs K H μ ds xs ∧ PostR K γ W (relV K) μ H σ ρ (f ds S) Q
def methV (f : D → List D → Store → R D) : V → List V → Hp → VK → Prop := fun x xs H Q => ∃ μ σ ρ S d ds, Sim K μ σ H ρ S ∧ RepV K H μ d x ∧ RepVs K H μ ds xs ∧ PostR K γ W (relV K) μ H σ ρ (f d ds S) Q
def slV (f : D → Option Int → Option Int → Store → R D) : V → Option Int → Option Int → Hp → VK → Prop := fun x lo hi H Q => ∃ μ σ ρ S d, Sim K μ σ H ρ S ∧ RepV K H μ d x ∧ PostR K γ W (relV K) μ H σ ρ (f d lo hi S) Q
end
variable {X : Cx}
theorem bin_add : OpR X (binaryOp .Add) (opV X.K γ W (bin2 .add)) := by
  refine opR_imp (op_add.or (op_add_str.or (op_catA.or op_cat))) fun x y H Q ⟨μ, σ, ρ, S, d, e, s, rx, ry, h⟩ => ?_
  cases d <;> cases e <;> first | (exfalso; exact h) | skip
  · cases rx; cases ry
    exact .inl ⟨_, _, rfl, rfl, h.here s (.int _)⟩
  · cases rx; cases ry
    simp only [bin2] at h
    split at h
    · exact .inr (.inl ⟨_, _, rfl, rfl, by rw [← linesz_eq]; assumption, h.here s (.str _)⟩)
    · exact h.elim
  · cases rx with
    | tup h1 r1 =>
      cases ry with
      | tup h2 r2 =>
        simp only [bin2] at h
        split at h
        case isFalse => exact h.elim
        case isTrue hz =>
          refine .inr (.inr (.inl ⟨_, _, _, _, rfl, rfl, h1, h2, by rw [r1.length, r2.length, ← linesz_eq]; exact hz, ?_, ?_, ?_⟩))
          · intro e; subst e
            cases r1
            exact h.here s (.tup h2 r2)
          · intro _ e; subst e
            cases r2
            rw [List.append_nil] at h
            exact h.here s (.tup h1 r1)
          · intro _ _
            exact h.newT s (r1.append r2)
  · simp only [bin2] at h
    split at h
    case h_2 => exact h.elim
    case h_1 h1 h2 =>
      split at h
      case isFalse => exact h.elim
      case isTrue hz =>
        obtain ⟨a, vs, rfl, g1, r1, _⟩ := s.list rx h1
        obtain ⟨b, ws, rfl, g2, r2, _⟩ := s.list ry h2
        exact .inr (.inr (.inr ⟨a, b, vs, ws, rfl, rfl, g1, g2, by rw [r1.length, r2.length, ← linesz_eq]; exact hz, h.newL s (r1.append r2)⟩))
theorem bin_sub : OpR X (binaryOp .Sub) (opV X.K γ W (bin2 .sub)) := by
  refine opR_imp op_sub fun x y H Q ⟨μ, σ, ρ, S, d, e, s, rx, ry, h⟩ => ?_
  cases d <;> cases e <;> first | (exfalso; exact h) | skip
  cases rx; cases ry
  exact ⟨_, _, rfl, rfl, h.here s (.int _)⟩
theorem bin_mul : OpR X (binaryOp .Mult) (opV X.K γ W (bin2 .mul)) := by
  refine opR_imp (op_mul.or op_rep) fun x y H Q ⟨μ, σ, ρ, S, d, e, s, rx, ry, h⟩ => ?_
  cases d <;> cases e <;> first | (exfalso; exact h) | skip
  · cases rx; cases ry
    simp only [bin2] at h
    split at h
    case isFalse => exact h.elim
    case isTrue hz => exact .inl ⟨_, _, rfl, rfl, hz, h.here s (.int _)⟩
  · cases ry
    simp only [bin2] at h
    split at h
    case h_2 => exact h.elim
    case h_1 h1 =>
      split at h
      case isFalse => exact h.elim
      case isTrue hz =>
        obtain ⟨a, vs, rfl, g1, r1, _⟩ := s.list rx h1
        refine .inr ⟨a, _, vs, rfl, rfl, g1, by simpa using hz.1, by simpa using hz.2.1, by rw [r1.length, ← linesz_eq]; exact hz.2.2, h.newL s (r1.rep _)⟩
theorem bin_fdiv : OpR X (binaryOp .FloorDiv) (opV X.K γ W (bin2 .fdiv)) := by
  refine opR_imp op_fdiv fun x y H Q ⟨μ, σ, ρ, S, d, e, s, rx, ry, h⟩ => ?_
  cases d <;> cases e <;> first | (exfalso; exact h) | skip
  cases rx; cases ry
  simp only [bin2] at h
  split at h
  case isFalse => exact h.elim
  case isTrue hz => exact ⟨_, _, rfl, rfl, hz, h.here s (.int _)⟩
theorem bin_mod : OpR X (binaryOp .Mod) (opV X.K γ W (bin2 .mod)) := by
  refine opR_imp op_mod fun x y H Q ⟨μ, σ, ρ, S, d, e, s, rx, ry, h⟩ => ?_
  cases d <;> cases e <;> first | (exfalso; exact h) | skip
  cases rx; cases ry
  simp only [bin2] at h
  split at h
  case isFalse => exact h.elim
  case isTrue hz => exact ⟨_, _, rfl, rfl, hz, h.here s (.int _)⟩
theorem bin_pow : OpR X (binaryOp .Pow) (opV X.K γ W (bin2 .pow)) := by
  refine opR_imp op_pow fun x y H Q ⟨μ, σ, ρ, S, d, e, s, rx, ry, h⟩ => ?_
  cases d <;> cases e <;> first | (exfalso; exact h) | skip
  cases rx; cases ry
  simp only [bin2] at h
  split at h
  case isFalse => exact h.elim
  case isTrue hz => exact ⟨_, _, rfl, rfl, by simpa [CPow] using hz, h.here s (.int _)⟩
def opOf : B2 → Operator
  | .add => .Add | .sub => .Sub | .mul => .Mult | .fdiv => .FloorDiv | .mod => .Mod | .pow => .Pow
theorem bin_all (o : B2) : OpR X (binaryOp (opOf o)) (opV X.K γ W (bin2 o)) := by
  cases o
  · exact bin_add
  · exact bin_sub
  · exact bin_mul
  · exact bin_fdiv
  · exact bin_mod
  · exact bin_pow
theorem neg_ok : UnR X (unaryOp .USub) (unV X.K γ W negR) := by
  refine unR_imp un_neg fun x H Q ⟨μ, σ, ρ, S, d, s, rx, h⟩ => ?_
  cases d <;> first | (exfalso; exact h) | skip
  cases rx
  exact ⟨_, rfl, h.here s (.int _)⟩
end
end Ng

set_option Elab.async false
set_option linter.all false
set_option maxRecDepth 100000
set_option maxHeartbeats 2000000
/-! Comparisons, truth, built-ins by values. -/
namespace Ng
open PySem PySem.Spec PyProof.Rows L2
section
variable {K : PySem.W.Frag} {γ : Nat → Value} {W : WX} {μ μ1 : Mu} {H H1 : Hp} {σ : L2.St} {ρ : Env} {S : Store}

/-! ### == -/
mutual
theorem dp_of {rf : Nat → Option PyData} (hr : ∀ n a p, rf n = some p → μ[n]? = some a → Dp K H (.ref a) p) : ∀ (d : D) (v : V) (p : PyData), RepV K H μ d v → toPyW rf d = some p → Dp K H v p
  | .non, _, _, .non, e => by simp only [toPyW, Option.some.injEq] at e; subst e; exact .non
  | .bl b, _, _, .bl _, e => by simp only [toPyW, Option.some.injEq] at e; subst e; exact .bl b
  | .int i, _, _, .int _, e => by simp only [toPyW, Option.some.injEq] at e; subst e; exact .int i
  | .str x, _, _, .str _, e => by simp only [toPyW, Option.some.injEq] at e; subst e; exact .str x
  | .tup ds, _, _, .tup h r, e => by
    simp only [toPyW, Option.map_eq_some_iff] at e
    obtain ⟨ps, e1, rfl⟩ := e
    exact .tup h (dps_of hr ds _ ps r e1)
  | .ref n, _, _, .ref h, e => hr n _ _ e h
  | .exc _, _, _, r, _ => nomatch r
theorem dps_of {rf : Nat → Option PyData} (hr : ∀ n a p, rf n = some p → μ[n]? = some a → Dp K H (.ref a) p) : ∀ (ds : List D) (vs : List V) (ps : List PyData), RepVs K H μ ds vs → toPysW rf ds = some ps → DpAll K H vs ps
  | [], _, _, .nil, e => by simp only [toPysW, Option.some.injEq] at e; subst e; exact .nil
  | d :: ds, _, _, .cons h r, e => by
    simp only [toPysW] at e
    split at e
    case h_1 e1 e2 => cases e; exact .cons (dp_of hr d _ _ h e1) (dps_of hr ds _ _ r e2)
    case h_2 => cases e
end
theorem dp_cell (s : Sim K μ σ H ρ S) : ∀ (k n : Nat) (a : Addr) (p : PyData), toPyN S k n = some p → μ[n]? = some a → Dp K H (.ref a) p
  | 0, _, _, _, e, _ => by simp [toPyN] at e
  | k + 1, n, a, p, e, hm => by
    simp only [toPyN] at e
    split at e
    case h_1 ds h =>
      simp only [Option.map_eq_some_iff] at e
      obtain ⟨ps, e1, rfl⟩ := e
      obtain ⟨vs, h1, r⟩ := s.s.cell n _ _ h hm
      exact .lst (.of h1) (dps_of (fun n a p => dp_cell s k n a p) ds vs ps r e1)
    case h_2 ds h =>
      simp only [Option.map_eq_some_iff] at e
      obtain ⟨ps, e1, rfl⟩ := e
      obtain ⟨vs, h1, r⟩ := s.s.cell n _ _ h hm
      exact .lst h1.sq (dps_of (fun n a p => dp_cell s k n a p) ds vs ps r e1)
    case h_3 => cases e
theorem dp_sim (s : Sim K μ σ H ρ S) {d : D} {v : V} {p : PyData} (r : RepV K H μ d v) (e : toPy S d = some p) : Dp K H v p :=
  dp_of (fun n a p => dp_cell s 6 n a p) d v p r e
/-- what == asks of the values -/
theorem eq_sim (s : Sim K μ σ H ρ S) {x y : D} {v u : V} {b : Bool} (rx : RepV K H μ x v) (ry : RepV K H μ y u) (e : eqD S x y = some b) :
    (scal v u = true ∧ decide (v = u) = b) ∨ ∃ d e, Dp K H v d ∧ Dp K H u e ∧ SeqAt.shaped d = true ∧ SeqAt.shaped e = true ∧ PyData.eqv d e = b := by
  unfold eqD at e
  split at e
  · cases rx; cases ry; cases e; exact .inl ⟨rfl, by simp⟩
  · cases rx; cases ry; cases e; exact .inl ⟨rfl, by simp⟩
  · cases rx; cases ry; cases e; exact .inl ⟨rfl, by simp⟩
  · cases rx; cases ry; cases e; exact .inl ⟨rfl, by simp⟩
  · split at e
    case h_1 e1 e2 =>
      split at e
      case isTrue hs =>
        rw [Bool.and_eq_true] at hs
        cases e
        exact .inr ⟨_, _, dp_sim s rx e1, dp_sim s ry e2, hs.1, hs.2, rfl⟩
      case isFalse => cases e
    case h_2 => cases e
theorem RepV.flat {d : D} {v : V} (r : RepV K H μ d v) (h : flatD d = true) : flatV v = true := by
  cases r <;> first | rfl | simp [flatD] at h
theorem RepVs.flat : ∀ {ds : List D} {vs : List V}, RepVs K H μ ds vs → ds.all flatD = true → vs.all flatV = true
  | _, _, .nil, _ => rfl
  | _, _, .cons r rs, h => by
    simp only [List.all_cons, Bool.and_eq_true] at h ⊢
    exact ⟨r.flat h.1, RepVs.flat rs h.2⟩
theorem eqF_of {x y : D} {v u : V} (rx : RepV K H μ x v) (ry : RepV K H μ y u) (hx : flatD x = true) (hy : flatD y = true) : eqV u v = eqF y x := by
  cases rx <;> cases ry <;> first | rfl | (simp [flatD] at hx; done) | (simp [flatD] at hy; done) | (simp only [eqV, eqF, Bool.beq_eq_decide_eq]) | simp only [eqV, eqF]
theorem inF_of {x : D} {v : V} (rx : RepV K H μ x v) (hx : flatD x = true) : ∀ {ds : List D} {vs : List V}, RepVs K H μ ds vs → ds.all flatD = true → inV v vs = inF x ds
  | _, _, .nil, _ => rfl
  | _, _, .cons r rs, h => by
    simp only [List.all_cons, Bool.and_eq_true] at h
    have ih := inF_of rx hx rs h.2
    unfold inV inF at ih ⊢
    simp only [List.any_cons]
    rw [eqF_of rx r hx h.1, ih]
theorem lex_of : ∀ {xs ys : List D} {vs us : List V} {b : Bool}, RepVs K H μ xs vs → RepVs K H μ ys us → lexD xs ys = some b → ∃ ns ms : List Int, vs = ns.map V.int ∧ us = ms.map V.int ∧ HT.lexLt ns ms = b
  | [], [], _, _, _, .nil, .nil, e => by simp only [lexD, Option.some.injEq] at e; exact ⟨[], [], rfl, rfl, by rw [← e]; rfl⟩
  | [], y :: ys, _, _, _, .nil, .cons r rs, e => by
    cases y <;> simp only [lexD] at e <;> first | (cases e; done) | skip
    rename_i j
    simp only [Option.map_eq_some_iff] at e
    obtain ⟨b', e1, rfl⟩ := e
    obtain ⟨ns, ms, h1, h2, _⟩ := lex_of .nil rs e1
    cases r
    cases ns with
    | nil => exact ⟨[], j :: ms, rfl, by rw [h2]; rfl, rfl⟩
    | cons => cases h1
  | x :: xs, [], _, _, _, .cons r rs, .nil, e => by
    cases x <;> simp only [lexD] at e <;> first | (cases e; done) | skip
    rename_i j
    simp only [Option.map_eq_some_iff] at e
    obtain ⟨b', e1, rfl⟩ := e
    obtain ⟨ns, ms, h1, h2, _⟩ := lex_of rs .nil e1
    cases r
    cases ms with
    | nil => exact ⟨j :: ns, [], by rw [h1]; rfl, rfl, rfl⟩
    | cons => cases h2
  | x :: xs, y :: ys, _, _, _, .cons r rs, .cons q qs, e => by
    cases x <;> cases y <;> simp only [lexD] at e <;> first | (cases e; done) | skip
    rename_i i j
    simp only [Option.map_eq_some_iff] at e
    obtain ⟨b', e1, rfl⟩ := e
    obtain ⟨ns, ms, h1, h2, h3⟩ := lex_of rs qs e1
    cases r; cases q
    refine ⟨i :: ns, j :: ms, by rw [h1]; rfl, by rw [h2]; rfl, ?_⟩
    rw [HT.lexLt_cons, h3]
variable {X : Cx}
def cmpOf : CO → CmpOp
  | .eq => .Eq | .ne => .NotEq | .lt => .Lt | .le => .LtE | .gt => .Gt | .ge => .GtE | .is => .Is | .isnot => .IsNot | .in_ => .In | .notin => .NotIn
theorem cmp_here {o : CO} {x y : D} {b : Bool} {Q : VK} (h : PostR K γ W (relV K) μ H σ ρ (cmpR o x y S) Q) (s : Sim K μ σ H ρ S) (e : cmp2 o x y S = some b) : Q (.bl b) H := by
  unfold cmpR at h
  rw [e] at h
  exact h.here s (.bl b)
/-- the comparison is one the engine knows -/
theorem cmp_some {o : CO} {x y : D} {Q : VK} (h : PostR K γ W (relV K) μ H σ ρ (cmpR o x y S) Q) : ∃ b, cmp2 o x y S = some b := by
  unfold cmpR at h
  cases e : cmp2 o x y S with
  | some b => exact ⟨b, rfl⟩
  | none => rw [e] at h; exact h.elim
theorem cmp_eq (hu : X.A.units + 64 < cLine) : OpR X (compareOp .Eq) (opV X.K γ W (cmpR .eq)) := by
  refine opR_imp (op_eq.or (op_eqD hu)) fun x y H Q ⟨μ, σ, ρ, S, d, e, s, rx, ry, h⟩ => ?_
  obtain ⟨b, e1⟩ := cmp_some h
  have q := cmp_here h s e1
  rcases eq_sim s rx ry e1 with ⟨h1, h2⟩ | ⟨p, p', h1, h2, h3, h4, h5⟩
  · exact .inl ⟨h1, by rw [h2]; exact q⟩
  · exact .inr ⟨p, p', h1, h2, h3, h4, by rw [h5]; exact q⟩
theorem cmp_ne (hu : X.A.units + 64 < cLine) : OpR X (compareOp .NotEq) (opV X.K γ W (cmpR .ne)) := by
  refine opR_imp (op_ne.or (op_neD hu)) fun x y H Q ⟨μ, σ, ρ, S, d, e, s, rx, ry, h⟩ => ?_
  obtain ⟨b, e1⟩ := cmp_some h
  have q := cmp_here h s e1
  simp only [cmp2, Option.map_eq_some_iff] at e1
  obtain ⟨b', e2, rfl⟩ := e1
  rcases eq_sim s rx ry e2 with ⟨h1, h2⟩ | ⟨p, p', h1, h2, h3, h4, h5⟩
  · exact .inl ⟨h1, by rw [h2]; exact q⟩
  · exact .inr ⟨p, p', h1, h2, h3, h4, by rw [h5]; exact q⟩
theorem cmp_lt (hu : X.A.units + 64 < cLine) : OpR X (compareOp .Lt) (opV X.K γ W (cmpR .lt)) := by
  refine opR_imp (op_lt.or (op_ltT (by omega))) fun x y H Q ⟨μ, σ, ρ, S, d, e, s, rx, ry, h⟩ => ?_
  obtain ⟨b, e1⟩ := cmp_some h
  have q := cmp_here h s e1
  cases d <;> cases e <;> simp only [cmp2] at e1 <;> first | (cases e1; done) | skip
  · cases rx; cases ry
    cases e1
    exact .inl ⟨_, _, rfl, rfl, q⟩
  · cases rx with
    | tup h1 r1 =>
      cases ry with
      | tup h2 r2 =>
        obtain ⟨ns, ms, h3, h4, h5⟩ := lex_of r1 r2 e1
        exact .inr ⟨_, _, ns, ms, rfl, rfl, by rw [← h3]; exact h1, by rw [← h4]; exact h2, by rw [h5]; exact q⟩
theorem cmp_le : OpR X (compareOp .LtE) (opV X.K γ W (cmpR .le)) := by
  refine opR_imp op_le fun x y H Q ⟨μ, σ, ρ, S, d, e, s, rx, ry, h⟩ => ?_
  obtain ⟨b, e1⟩ := cmp_some h
  have q := cmp_here h s e1
  cases d <;> cases e <;> simp only [cmp2] at e1 <;> first | (cases e1; done) | skip
  cases rx; cases ry; cases e1
  exact ⟨_, _, rfl, rfl, q⟩
theorem cmp_gt : OpR X (compareOp .Gt) (opV X.K γ W (cmpR .gt)) := by
  refine opR_imp op_gt fun x y H Q ⟨μ, σ, ρ, S, d, e, s, rx, ry, h⟩ => ?_
  obtain ⟨b, e1⟩ := cmp_some h
  have q := cmp_here h s e1
  cases d <;> cases e <;> simp only [cmp2] at e1 <;> first | (cases e1; done) | skip
  cases rx; cases ry; cases e1
  exact ⟨_, _, rfl, rfl, q⟩
theorem cmp_ge : OpR X (compareOp .GtE) (opV X.K γ W (cmpR .ge)) := by
  refine opR_imp op_ge fun x y H Q ⟨μ, σ, ρ, S, d, e, s, rx, ry, h⟩ => ?_
  obtain ⟨b, e1⟩ := cmp_some h
  have q := cmp_here h s e1
  cases d <;> cases e <;> simp only [cmp2] at e1 <;> first | (cases e1; done) | skip
  cases rx; cases ry; cases e1
  exact ⟨_, _, rfl, rfl, q⟩
theorem cmp_is : OpR X (compareOp .Is) (opV X.K γ W (cmpR .is)) := by
  refine opR_imp (op_isBl.or op_isN) fun x y H Q ⟨μ, σ, ρ, S, d, e, s, rx, ry, h⟩ => ?_
  obtain ⟨b, e1⟩ := cmp_some h
  have q := cmp_here h s e1
  cases e with
  | bl b2 =>
    cases d <;> simp only [cmp2] at e1 <;> first | (cases e1; done) | skip
    cases rx; cases ry; cases e1
    exact .inl ⟨_, _, rfl, rfl, q⟩
  | non =>
    cases ry
    refine .inr ⟨rfl, ?_⟩
    cases rx <;> simp only [cmp2] at e1 <;> cases e1 <;> simpa using q
  | _ => cases d <;> simp only [cmp2] at e1 <;> cases e1
theorem cmp_isnot : OpR X (compareOp .IsNot) (opV X.K γ W (cmpR .isnot)) := by
  refine opR_imp (op_notBl.or op_notN) fun x y H Q ⟨μ, σ, ρ, S, d, e, s, rx, ry, h⟩ => ?_
  obtain ⟨b, e1⟩ := cmp_some h
  have q := cmp_here h s e1
  cases e with
  | bl b2 =>
    cases d <;> simp only [cmp2] at e1 <;> first | (cases e1; done) | skip
    cases rx; cases ry; cases e1
    exact .inl ⟨_, _, rfl, rfl, q⟩
  | non =>
    cases ry
    refine .inr ⟨rfl, ?_⟩
    cases rx <;> simp only [cmp2] at e1 <;> cases e1 <;> simpa using q
  | _ => cases d <;> simp only [cmp2] at e1 <;> cases e1
theorem cmp_in : OpR X (compareOp .In) (opV X.K γ W (cmpR .in_)) := by
  refine opR_imp op_in_seq fun x y H Q ⟨μ, σ, ρ, S, d, e, s, rx, ry, h⟩ => ?_
  obtain ⟨b, e1⟩ := cmp_some h
  have q := cmp_here h s e1
  have key : ∀ ds, seqD S e = some ds → (if (flatD d && ds.all flatD) = true then some (inF d ds) else none) = some b → rIn X.K false x y H Q := fun ds hs hi => by
    split at hi
    case isFalse => cases hi
    case isTrue hf =>
      rw [Bool.and_eq_true] at hf
      cases hi
      obtain ⟨a, vs, rfl, hq, r⟩ := s.seq ry hs
      exact ⟨a, vs, rfl, hq, rx.flat hf.1, r.flat hf.2, by rw [inF_of rx hf.1 r hf.2]; exact q⟩
  cases e <;> simp only [cmp2] at e1 <;> first | (cases e1; done) | skip
  · exact key _ rfl e1
  · split at e1
    · exact key _ (by simp only [seqD]; split <;> simp_all) e1
    · exact key _ (by simp only [seqD]; split <;> simp_all) e1
    · cases e1
theorem cmp_notin : OpR X (compareOp .NotIn) (opV X.K γ W (cmpR .notin)) := by
  refine opR_imp op_notIn_seq fun x y H Q ⟨μ, σ, ρ, S, d, e, s, rx, ry, h⟩ => ?_
  obtain ⟨b, e1⟩ := cmp_some h
  have q := cmp_here h s e1
  have key : ∀ ds, seqD S e = some ds → (if (flatD d && ds.all flatD) = true then some !(inF d ds) else none) = some b → rIn X.K true x y H Q := fun ds hs hi => by
    split at hi
    case isFalse => cases hi
    case isTrue hf =>
      rw [Bool.and_eq_true] at hf
      cases hi
      obtain ⟨a, vs, rfl, hq, r⟩ := s.seq ry hs
      exact ⟨a, vs, rfl, hq, rx.flat hf.1, r.flat hf.2, by rw [inF_of rx hf.1 r hf.2]; exact q⟩
  cases e <;> simp only [cmp2] at e1 <;> first | (cases e1; done) | skip
  · exact key _ rfl e1
  · split at e1
    · exact key _ (by simp only [seqD]; split <;> simp_all) e1
    · exact key _ (by simp only [seqD]; split <;> simp_all) e1
    · cases e1
theorem cmp_all (hu : X.A.units + 64 < cLine) (o : CO) : OpR X (compareOp (cmpOf o)) (opV X.K γ W (cmpR o)) := by
  cases o
  · exact cmp_eq hu
  · exact cmp_ne hu
  · exact cmp_lt hu
  · exact cmp_le
  · exact cmp_gt
  · exact cmp_ge
  · exact cmp_is
  · exact cmp_isnot
  · exact cmp_in
  · exact cmp_notin
/-! ### truth -/
theorem tru_of (s : Sim K μ σ H ρ S) {d : D} {v : V} {b : Bool} (r : RepV K H μ d v) (e : truD S d = some b) : TruV K v H b := by
  cases d with
  | non => cases r; cases e; rfl
  | bl x => cases r; cases e; rfl
  | int i => cases r; cases e; rfl
  | str x =>
    cases r
    simp only [truD] at e
    split at e
    case isTrue h => cases e; exact ⟨by rw [← linesz_eq]; exact h, rfl⟩
    case isFalse => cases e
  | tup ds =>
    cases r with
    | tup h r => cases e; exact .inr (.inl ⟨_, h, by rw [r.isEmpty]⟩)
  | ref n =>
    simp only [truD] at e
    split at e
    · cases e
      obtain ⟨a, vs, rfl, h1, h2, _⟩ := s.list r (by assumption)
      exact .inl ⟨vs, .of h1, by rw [h2.isEmpty]⟩
    · cases e
      obtain ⟨a, vs, rfl, h1, h2, _⟩ := s.roL r (by assumption)
      exact .inl ⟨vs, h1.sq, by rw [h2.isEmpty]⟩
    · cases e
  | exc => cases r
theorem tru_some {d : D} {Q : Bool → Hp → Prop} (h : PostR K γ W relEq μ H σ ρ (truR d S) Q) (s : Sim K μ σ H ρ S) : ∃ b, truD S d = some b ∧ Q b H := by
  unfold truR at h
  cases e : truD S d with
  | some b => rw [e] at h; exact ⟨b, rfl, h.here s rfl⟩
  | none => rw [e] at h; exact h.elim
theorem tru_all : TruR X (truV X.K γ W truR) := by
  refine truR_imp tru_ok fun x H Q ⟨μ, σ, ρ, S, d, s, rx, h⟩ => ?_
  obtain ⟨b, e, q⟩ := tru_some h s
  exact ⟨b, tru_of s rx e, q⟩
/-! ### items, slices -/
theorem atI_rep {ds : List D} {vs : List V} {i : Int} {d : D} (r : RepVs K H μ ds vs) (h : L2.atI ds i = some d) : ∃ v, L2.atI vs i = some v ∧ RepV K H μ d v := by
  unfold L2.atI at h ⊢
  rw [r.length]
  cases e : L2.ixN ds.length i with
  | none => rw [e] at h; cases h
  | some j =>
    rw [e] at h
    obtain ⟨v, h1, h2⟩ := r.get (show ds[j]? = some d from h)
    exact ⟨v, h1, h2⟩
theorem ix_all : IxR X (opV X.K γ W ix2) := by
  refine ixR_imp ix_seq fun x y H Q ⟨μ, σ, ρ, S, d, e, s, rx, ry, h⟩ => ?_
  cases d <;> cases e <;> first | (exfalso; exact h) | skip
  · cases rx; cases ry
    simp only [ix2] at h
    split at h
    case isFalse => exact h.elim
    case isTrue hz =>
      split at h
      case h_1 c hc => exact .inr (.inr ⟨_, _, c, rfl, rfl, by rw [← linesz_eq]; exact hz, hc, h.here s (.str _)⟩)
      case h_2 => exact h.elim
  · cases ry
    cases rx with
    | tup h1 r =>
      simp only [ix2] at h
      split at h
      case h_1 d hd =>
        obtain ⟨v, e1, e2⟩ := atI_rep r hd
        exact .inr (.inl ⟨_, _, _, v, rfl, rfl, h1, e1, h.here s e2⟩)
      case h_2 => exact h.elim
  · cases ry
    simp only [ix2] at h
    split at h
    · split at h
      case h_2 => exact h.elim
      case h_1 d hd =>
        obtain ⟨a, vs, rfl, h1, r, _⟩ := s.list rx (by assumption)
        obtain ⟨v, e1, e2⟩ := atI_rep r hd
        exact .inl ⟨_, _, _, v, rfl, rfl, .of h1, e1, h.here s e2⟩
    · split at h
      case h_2 => exact h.elim
      case h_1 d hd =>
        obtain ⟨a, vs, rfl, h1, r, _⟩ := s.roL rx (by assumption)
        obtain ⟨v, e1, e2⟩ := atI_rep r hd
        exact .inl ⟨_, _, _, v, rfl, rfl, h1.sq, e1, h.here s e2⟩
    · exact h.elim
theorem cut_rep {ds : List D} {vs : List V} (r : RepVs K H μ ds vs) (lo hi : Option Int) : RepVs K H μ (cutD ds lo hi) (L2.cutV vs lo hi) := by
  unfold cutD L2.cutV
  rw [r.length]
  exact (r.drop _).take _
theorem slc_all : SlR X (slV X.K γ W slc2) := by
  refine slR_imp (sl_list.or sl_tupA) fun x lo hi H Q ⟨μ, σ, ρ, S, d, s, rx, h⟩ => ?_
  cases d <;> first | (exfalso; exact h) | skip
  · cases rx with
    | tup h1 r =>
      simp only [slc2] at h
      refine .inr ⟨_, _, rfl, h1, fun hw => ?_, fun _ => h.newT s (cut_rep r lo hi)⟩
      have q : PostR X.K γ W (relV X.K) μ H σ ρ (.ok (.tup (cutD _ lo hi)) S) Q := h
      refine q.here s (.tup h1 ?_)
      rename_i a vs ds
      have e1 : L2.cutV vs lo hi = vs := by
        unfold L2.cutV
        rw [hw.1, hw.2]
        simp
      have t := cut_rep r lo hi
      rw [e1] at t
      exact t
  · simp only [slc2] at h
    split at h
    · obtain ⟨a, vs, rfl, h1, r, _⟩ := s.list rx (by assumption)
      exact .inl ⟨a, vs, rfl, .of h1, h.newL s (cut_rep r lo hi)⟩
    · obtain ⟨a, vs, rfl, h1, r, _⟩ := s.roL rx (by assumption)
      exact .inl ⟨a, vs, rfl, h1.sq, h.newL s (cut_rep r lo hi)⟩
    · exact h.elim
end
end Ng

set_option Elab.async false
set_option linter.all false
set_option maxRecDepth 100000
set_option maxHeartbeats 4000000
/-! What the text must be for an expression of the engine; that the engine reads it. -/
namespace Ng
open PySem PySem.Spec PyProof.Rows L2

/-- what is known of the place: the names by slot, the scope, which cells may be stored, whether nothing is being handled; the defs by number, the constants, the built-ins that the module does not hide -/
structure Gam where
  N : List Str
  sc : Scope
  fn : Str → Bool
  calm : Bool
  fns : List Str
  glb : List (Str × D)
  blt : List Str
def glX (Γ : Gam) (x : Str) : Bool := decide (Γ.sc.names.lookup x = some .globalImplicit)
def blX (Γ : Gam) (x : Str) : Bool := glX Γ x && Γ.blt.contains x
def visX (Γ : Gam) (x : Str) : Bool := match Γ.sc.names.lookup x with | some .local => true | some .cell => true | some .free => true | _ => false
def nodbg (x : Str) : Bool := !(x == ("__debug__" : Str)) && !(x == ("__classdict__" : Str)) && !(x == ("__name__" : Str))
def biName : Bi → Str
  | .len => "len" | .abs => "abs" | .min2 => "min" | .max2 => "max" | .min3 => "min" | .max3 => "max" | .int => "int" | .str => "str" | .tuple => "tuple" | .list => "list" | .any => "any" | .all => "all" | .sum => "sum"
  | .sorted => "sorted" | .minL => "min" | .maxL => "max" | .dict0 => "dict" | .dict => "dict"
/-- how many arguments; 0: not served -/
def biArgs : Bi → Nat
  | .len => 1 | .abs => 1 | .min2 => 2 | .max2 => 2 | .min3 => 3 | .max3 => 3 | .int => 1 | .str => 1 | .tuple => 1 | .list => 1 | .any => 1 | .all => 1 | .sum => 1
  | _ => 0
def tyName : Ty → String
  | .int => "int" | .bool => "bool" | .str => "str" | .tuple => "tuple" | .list => "list" | .dict => "dict"
/-- what a piece of text is: an expression, arguments, a part of a slice, an iterable -/
structure Ck where
  e : Expr → Bool
  a : List Expr → Bool
  o : Option Expr → Bool
  i : Expr → Bool
def Ck.ofE (f : Expr → Bool) : Ck := { e := f, a := fun _ => false, o := fun x => match x with | some x => f x | none => false, i := f }
def Ck.no : Ck := Ck.ofE fun _ => false
def ckRest (f : Expr → Bool) (op : BoolOp) (pos : Pos) : List Expr → Bool
  | [] => false
  | [y] => f y
  | y :: z :: r => f (.BoolOp op (y :: z :: r) pos)
def tyExpr (Γ : Gam) (t : Ty) : Expr → Bool
  | .Name x _ => decide (x = Str.ofString (tyName t)) && blX Γ x
  | _ => false
def tyExprs (Γ : Gam) : List Ty → List Expr → Bool
  | [], [] => true
  | t :: ts, e :: es => tyExpr Γ t e && tyExprs Γ ts es
  | _, _ => false
/-- a target of names -/
def ckName (Γ : Gam) (i : Nat) (x : Str) : Bool := decide (Γ.N[i]? = some x) && (match Γ.sc.names.lookup x with | some .local => true | some .cell => Γ.fn x | _ => false)
def ckGs (Γ : Gam) : E → List Expr → Bool
  | .nil, [] => true
  | .cons (.var i) ts, .Name x _ :: es => ckName Γ i x && ckGs Γ ts es
  | _, _ => false
def ckG (Γ : Gam) : E → Expr → Bool
  | .var i, .Name x _ => ckName Γ i x
  | .tup ts, .Tuple es _ _ => Γ.calm && ckGs Γ ts es
  | _, _ => false
def tgSlots : E → List Nat
  | .var i => [i]
  | .tup ts => tgSlots ts
  | .cons (.var i) ts => i :: tgSlots ts
  | _ => []
def ownOf (N : List Str) (own : List Nat) : List (Str × Nat) := own.filterMap fun i => (N[i]?).map fun x => (x, i)
def Gam.blk (Γ : Gam) (scope : Scope) : Gam := { Γ with sc := relS scope Γ.sc, fn := fun x => scope.names.lookup x == some .cell }
def isSet : Expr → Bool
  | .Set .. => true
  | _ => false
def plainObj : Expr → Bool
  | .Call .. => false
  | _ => true
def chk : E → Gam → Ck
  | .var i, Γ => Ck.ofE fun x => match x with
    | .Name x _ => decide (Γ.N[i]? = some x) && visX Γ x && nodbg x
    | _ => false
  | .non, _ => Ck.ofE fun x => match x with | .Constant .none _ _ => true | _ => false
  | .bl b, _ => Ck.ofE fun x => match x with | .Constant (.bool c) _ _ => b == c | _ => false
  | .int i, _ => Ck.ofE fun x => match x with | .Constant (.int j) _ _ => i == j | _ => false
  | .str s, _ => Ck.ofE fun x => match x with | .Constant (.str t) _ _ => decide (s = t) | _ => false
  | .glb y d, Γ => Ck.ofE fun x => match x with
    | .Name x _ => decide (x = y) && glX Γ x && nodbg x && decide (Γ.glb.lookup x = some d)
    | _ => false
  | .bin o a b, Γ => Ck.ofE fun x => match x with | .BinOp l p r _ => decide (p = opOf o) && (chk a Γ).e l && (chk b Γ).e r | _ => false
  | .neg a, Γ => Ck.ofE fun x => match x with | .UnaryOp .USub y _ => (chk a Γ).e y | _ => false
  | .cmp o a b, Γ => Ck.ofE fun x => match x with | .Compare l [p] [r] _ => decide (p = cmpOf o) && (chk a Γ).e l && (chk b Γ).e r && !(behindInMarks p r) | _ => false
  | .chain o1 o2 a b c, Γ => Ck.ofE fun x => match x with | .Compare l [p, q] [r, z] _ => decide (p = cmpOf o1) && decide (q = cmpOf o2) && (chk a Γ).e l && (chk b Γ).e r && (chk c Γ).e z && !(lastMarks [p, q] [r, z]) | _ => false
  | .not a, Γ => Ck.ofE fun x => match x with | .UnaryOp .Not y _ => (chk a Γ).e y | _ => false
  | .and a b, Γ => Ck.ofE fun x => match x with | .BoolOp .And (y :: r) pos => (chk a Γ).e y && ckRest (chk b Γ).e .And pos r | _ => false
  | .or a b, Γ => Ck.ofE fun x => match x with | .BoolOp .Or (y :: r) pos => (chk a Γ).e y && ckRest (chk b Γ).e .Or pos r | _ => false
  | .ite c a b, Γ => Ck.ofE fun x => match x with | .IfExp t y z _ => (chk c Γ).e t && (chk a Γ).e y && (chk b Γ).e z | _ => false
  | .tup as, Γ => Ck.ofE fun x => match x with | .Tuple es _ _ => (chk as Γ).a es | _ => false
  | .lst as, Γ => Ck.ofE fun x => match x with | .List es _ => (chk as Γ).a es | _ => false
  | .nil, _ => { e := fun _ => false, a := fun xs => match xs with | [] => true | _ => false, o := fun x => match x with | none => true | _ => false, i := fun _ => false }
  | .cons a as, Γ => { e := fun _ => false, a := fun xs => match xs with | [] => false | x :: r => (chk a Γ).e x && (chk as Γ).a r, o := fun _ => false, i := fun _ => false }
  | .ix a b, Γ => Ck.ofE fun x => match x with | .Subscript o i _ => (chk a Γ).e o && (chk b Γ).e i | _ => false
  | .slc a lo hi, Γ => Ck.ofE fun x => match x with | .Subscript o (.Slice l u none _) _ => (chk a Γ).e o && (chk lo Γ).o l && (chk hi Γ).o u | _ => false
  | .call f as, Γ => Ck.ofE fun x => match x with
    | .Call (.Name x _) es [] _ => Γ.calm && decide (Γ.fns[f]? = some x) && glX Γ x && nodbg x && (chk as Γ).a es
    | _ => false
  | .bi f as, Γ => Ck.ofE fun x => match x with
    | .Call (.Name x _) es [] _ => Γ.calm && decide (x = biName f) && blX Γ x && decide (es.length = biArgs f) && (chk as Γ).a es
    | _ => false
  | .me m o as, Γ => Ck.ofE fun x => match x with
    | .Call (.Attribute v x apos) [e] [] pos => (match m with | .append => decide (x = ("append" : Str)) | _ => false) && (apos.endLine == pos.line) && plainObj v && (chk o Γ).e v && (chk as Γ).a [e]
    | _ => false
  | .isi a ts multi, Γ => Ck.ofE fun x => match x with
    | .Call (.Name x _) [y, z] [] _ => decide (x = ("isinstance" : Str)) && (!ts.isEmpty && decide (ts.length ≤ 10)) && blX Γ x && (chk a Γ).e y && (bif multi then (match z with | .Tuple es _ _ => tyExprs Γ ts es | _ => false) else tyExprs Γ ts [z])
    | _ => false
  | .rng as, Γ => { Ck.no with i := fun x => match x with
    | .Call (.Name x _) es [] _ => decide (x = ("range" : Str)) && blX Γ x && (es.length == 1 || es.length == 2) && (chk as Γ).a es
    | _ => false }
  | .enm _, _ => Ck.no
  | .zp _ _, _ => Ck.no
  | .itm _, _ => Ck.no
  | .lc own tg src cond elt, Γ => Ck.ofE fun x => match x with
    | .ListComp el [⟨t, it, ifs, 0⟩] scope _ =>
      Γ.calm && (chk src Γ).i it && !(isSet it) && blkC Γ.N Γ.sc scope (ownOf Γ.N own) && decide ((ownOf Γ.N own).map (·.2) = own) && ckG (Γ.blk scope) tg t && (tgSlots tg).all (fun i => own.contains i) &&
        (match ifs with | [] => (match cond with | .bl true => true | _ => false) | [c] => (chk cond (Γ.blk scope)).e c | _ => false) && (chk elt (Γ.blk scope)).e el
    | _ => false
end Ng

set_option Elab.async false
set_option linter.all false
set_option maxRecDepth 100000
set_option maxHeartbeats 4000000
/-! The engine's expressions are read as they are evaluated. -/
namespace Ng
open PySem PySem.Spec PyProof.Rows L2

/-- a def's promise, by the engine -/
def spF (K : PySem.W.Frag) (γ : Nat → Value) (P : Nat → List D → Store → R D) (np f : Nat) : Sp := fun vs H Q E => vs.length = np ∧ ∃ μ S ds, RepS K H μ S ∧ RepVs K H μ ds vs ∧
  match P f ds S with
  | .ok d S' => ∀ μ' v H', Le K μ H μ' H' → RepS K H' μ' S' → RepV K H' μ' d v → Q v H'
  | .exc c fs S' => ∀ μ' H' d, Le K μ H μ' H' → RepS K H' μ' S' → XD K H' μ' fs d → E (γ c) d H'
  | .bad => False
/-- the walk of an iterable is what the engine tells -/
def Wk (K : PySem.W.Frag) (μ₀ : Mu) (H₀ : Hp) (w : Ng.It) (J : L2.It) : Prop := ∀ μ σ H ρ S (i : Nat), Le K μ₀ H₀ μ H → Sim K μ σ H ρ S → ckS w.lk S = true →
  (w.ds[i]? = none → J.stop i H) ∧ (∀ d, w.ds[i]? = some d → J.go i H ∧ ∀ x H', J.yld i H x H' → ∃ μ', Le K μ H μ' H' ∧ Sim K μ' σ H' ρ S ∧ RepV K H' μ' d x)
def tI (K : PySem.W.Frag) (γ : Nat → Value) (W : WX) (f : Env → Store → R Ng.It) : TI := tR K γ W (Wk K) f
structure Good (X : Cx) (Γ : Gam) (γ : Nat → Value) (W : WX) (P : Nat → List D → Store → R D) : Prop where
  N : X.N = Γ.N
  nd : X.N.Nodup
  sc : X.env.scope = Γ.sc
  fn : ∀ x, Γ.fn x = true → X.fn x = true
  calm : Γ.calm = true → X.calm = true
  un : X.A.units + 64 < cLine
  glb : ∀ x d, Γ.glb.lookup x = some d → ∃ u v, X.mg x = some u ∧ RelV v u ∧ ∀ H μ, RepV X.K H μ d v
  blt : ∀ x, Γ.blt.contains x = true → X.mg x = none
  tk : Takes X W
  fns : Γ.calm = true → ∀ f x, Γ.fns[f]? = some x → ∃ k addr fd ps np, FnOk X.prog X.w X.K X.mg X.base (L2.CX X.prog X.w) k addr fd ps (spF X.K γ P np f) ∧ (∀ ds S, P f ds S ≠ .bad → ds.length = np) ∧ Room k X.A ∧ X.mg x = some (.ref addr) ∧ PySem.W.keepIn X.K (.ref addr) = true ∧ Binds X.K fd ps []
structure Snd (X : Cx) (γ : Nat → Value) (W : WX) (d : Den) (ck : Ck) : Prop where
  e : ∀ x, ck.e x = true → PE X x (tE X.K γ W d.v)
  t : ∀ x, ck.e x = true → PT X x (tT X.K γ W d.t)
  w : ∀ op vs pos, ck.e (.BoolOp op vs pos) = true → PW X (.BoolOp op vs pos) (tT X.K γ W d.t)
  a : ∀ xs, ck.a xs = true → PA X xs (tA X.K γ W d.a)
  o : ∀ x, ck.o x = true → PO X x (tO X.K γ W d.o)
  i : ∀ x tg, ck.i x = true → PI X tg x (tI X.K γ W d.i)
section
variable {X : Cx} {γ : Nat → Value} {W : WX} {Γ : Gam} {P : Nat → List D → Store → R D}
theorem pi_imp {tg x : Expr} {t t' : TI} (h : PI X tg x t) (i : ∀ σ H R, t' σ H R → t σ H R) : PI X tg x t' := ⟨fun pins s σ H R I q => h.run pins s σ H R I (i σ H R q)⟩
theorem pi_or {tg x : Expr} {t t' : TI} (h : PI X tg x t) (h' : PI X tg x t') : PI X tg x (fun σ H R => t σ H R ∨ t' σ H R) := ⟨fun pins s σ H R I q => q.elim (h.run pins s σ H R I) (h'.run pins s σ H R I)⟩
theorem pe_or' {x : Expr} {t t' : TE} (h : PE X x t) (h' : PE X x t') : PE X x (fun σ H Q => t σ H Q ∨ t' σ H Q) := ⟨fun pins s σ H Q I q => q.elim (h.run pins s σ H Q I) (h'.run pins s σ H Q I)⟩
/-! ### iterables of values -/
theorem wk_list {K : PySem.W.Frag} {μ : Mu} {H : Hp} {n : Nat} {ds : List D} {a : Addr} (hm : μ[n]? = some a) {c : Cell} (hc : c = .lst ds ∨ c = .ro ds) : Wk K μ H ⟨ds, some (n, c)⟩ (Itl K a) := by
  intro μ1 σ H1 ρ S i le s hck
  have hS : S[n]? = some c := by simpa [ckS] using hck
  obtain ⟨vs, hq, r⟩ : ∃ vs, SqL K H1 a vs ∧ RepVs K H1 μ1 ds vs := by
    have rc := s.s.cell n _ _ hS (le.at hm)
    rcases hc with rfl | rfl
    · obtain ⟨vs, h1, r⟩ := rc; exact ⟨vs, .of h1, r⟩
    · obtain ⟨vs, h1, r⟩ := rc; exact ⟨vs, h1.sq, r⟩
  refine ⟨fun hn => ⟨vs, hq, ?_⟩, fun d hd => ?_⟩
  · rw [r.length]; exact List.getElem?_eq_none_iff.mp hn
  · obtain ⟨v, h1, h2⟩ := r.get hd
    refine ⟨⟨vs, v, hq, h1⟩, fun x H' ⟨e, hx⟩ => ?_⟩
    subst e
    have := hx vs hq
    rw [h1] at this
    cases this
    exact ⟨μ1, .refl, s, h2⟩
theorem wk_tup {K : PySem.W.Frag} {μ : Mu} {H : Hp} {ds : List D} {vs : List V} {a : Addr} (hq : SqT K H a vs) (r : RepVs K H μ ds vs) : Wk K μ H ⟨ds, none⟩ (Itt K a) := by
  intro μ1 σ H1 ρ S i le s _
  have hq1 := le.tup _ _ hq
  have r1 := r.mono le
  refine ⟨fun hn => ⟨vs, hq1, ?_⟩, fun d hd => ?_⟩
  · rw [r.length]; exact List.getElem?_eq_none_iff.mp hn
  · obtain ⟨v, h1, h2⟩ := r1.get hd
    refine ⟨⟨vs, v, hq1, h1⟩, fun x H' ⟨e, hx⟩ => ?_⟩
    subst e
    have := hx vs hq1
    rw [h1] at this
    cases this
    exact ⟨μ1, .refl, s, h2⟩
theorem wk_rng {K : PySem.W.Frag} {μ : Mu} {H : Hp} {lo : Int} {n : Nat} : Wk K μ H ⟨rngD lo n, none⟩ (Itr lo n) := by
  intro μ1 σ H1 ρ S i le s _
  refine ⟨fun hn => ?_, fun d hd => ?_⟩
  · have := List.getElem?_eq_none_iff.mp hn
    have h2 : n ≤ i := by simpa [rngD] using this
    exact h2
  · unfold rngD at hd
    rw [List.getElem?_map] at hd
    cases e : (List.range n)[i]? with
    | none => rw [e] at hd; cases hd
    | some j =>
      rw [e] at hd
      cases hd
      have hi := (List.getElem?_eq_some_iff.mp e).1
      rw [List.length_range] at hi
      rw [List.getElem?_range hi] at e
      cases e
      refine ⟨hi, fun x H' ⟨e1, e2⟩ => ?_⟩
      subst e1; subst e2
      exact ⟨μ1, .refl, s, .int _⟩
theorem pi_val {tg x : Expr} {v : Env → Store → R D} (h : PE X x (tE X.K γ W v)) : PI X tg x (tI X.K γ W fun ρ S => (v ρ S).bind itD) := by
  refine pi_imp (pi_or (pi_list h) (pi_tup h)) fun σ H R ⟨μ, ρ, S, s, q⟩ => ?_
  have q1 := PostR.bind (rel := relV X.K) q
  cases e : v ρ S with
  | bad => rw [e] at q1; exact q1.elim
  | exc c fs S' =>
    rw [e] at q1
    exact .inl ⟨μ, ρ, S, s, by rw [e]; exact q1⟩
  | ok d S1 =>
    have key : ∀ {T : VK}, (∀ μ1 H1 v, Le X.K μ H μ1 H1 → Sim X.K μ1 σ H1 ρ S1 → RepV X.K H1 μ1 d v → T v H1) → tE X.K γ W v σ H T := fun t => ⟨μ, ρ, S, s, by rw [e]; exact t⟩
    change PostR X.K γ W (Wk X.K) μ H σ ρ ((v ρ S).bind itD) R at q
    rw [e] at q
    change PostR X.K γ W (Wk X.K) μ H σ ρ (itD d S1) R at q
    cases d with
    | tup ds =>
      refine .inr (key fun μ1 H1 x le s1 r => ?_)
      cases r with
      | tup h1 r1 => exact ⟨_, rfl, ⟨_, h1⟩, (q.base le).here s1 (wk_tup h1 r1)⟩
    | ref n =>
      simp only [itD] at q
      split at q
      · refine .inl (key fun μ1 H1 x le s1 r => ?_)
        obtain ⟨a, vs, rfl, h1, r1, hm⟩ := s1.list r (by assumption)
        exact ⟨a, rfl, ⟨vs, .of h1⟩, (q.base le).here s1 (wk_list hm (.inl rfl))⟩
      · refine .inl (key fun μ1 H1 x le s1 r => ?_)
        obtain ⟨a, vs, rfl, h1, r1, hm⟩ := s1.roL r (by assumption)
        exact ⟨a, rfl, ⟨vs, h1.sq⟩, (q.base le).here s1 (wk_list hm (.inr rfl))⟩
      · exact q.elim
    | _ => exact q.elim
/-! ### tests, parts of slices -/
theorem pt_of {x : Expr} {v : Env → Store → R D} (h : PE X x (tE X.K γ W v)) (he : ∀ whole, isTrue x X.env whole = (do let v ← whole; standAt x.pos; holding [v] (truthy v))) : PT X x (tT X.K γ W fun ρ S => (v ρ S).bind truR) := by
  refine pt_imp (pt_truth h he) fun σ H Q ⟨μ, ρ, S, s, q⟩ => ⟨μ, ρ, S, s, (PostR.bind q).imp fun x H1 ⟨μ1, S1, d, le, s1, r, q1⟩ => ?_⟩
  obtain ⟨b, e, q2⟩ := tru_some q1 s1
  exact ⟨b, tru_of s1 r e, q2⟩
theorem po_of {x : Expr} {v : Env → Store → R D} (h : PE X x (tE X.K γ W v)) : PO X (some x) (tO X.K γ W fun ρ S => (v ρ S).bind optR) := by
  refine po_imp (po_some h) fun σ H Q ⟨μ, ρ, S, s, q⟩ => ⟨μ, ρ, S, s, (PostR.bind q).imp fun x H1 ⟨μ1, S1, d, le, s1, r, q1⟩ => ?_⟩
  cases r <;> first | (exfalso; exact q1) | skip
  exact ⟨_, rfl, q1.here s1 rfl⟩
theorem snd_ofVT {f : Expr → Bool} {v : Env → Store → R D} {t : Env → Store → R Bool} (he : ∀ x, f x = true → PE X x (tE X.K γ W v)) (ht : ∀ x, f x = true → PT X x (tT X.K γ W t)) (hw : ∀ op vs pos, f (.BoolOp op vs pos) = true → PW X (.BoolOp op vs pos) (tT X.K γ W t)) :
    Snd X γ W (ofVT v t) (Ck.ofE f) where
  e := he
  t := ht
  w := hw
  a := fun _ h => nomatch h
  o := fun x h => match x, h with | some x, h => po_of (he x h)
  i := fun x _ h => pi_val (he x h)
theorem snd_ofV {f : Expr → Bool} {v : Env → Store → R D} (h : ∀ x, f x = true → PE X x (tE X.K γ W v) ∧ (∀ whole, isTrue x X.env whole = (do let v ← whole; standAt x.pos; holding [v] (truthy v))) ∧ ∀ op vs pos, x ≠ .BoolOp op vs pos) :
    Snd X γ W (ofV v) (Ck.ofE f) :=
  snd_ofVT (fun x q => (h x q).1) (fun x q => pt_of (h x q).1 (h x q).2.1) fun op vs pos q => absurd rfl ((h _ q).2.2 op vs pos)
theorem snd_no {d : Den} : Snd X γ W d Ck.no where
  e := fun _ h => nomatch h
  t := fun _ h => nomatch h
  w := fun _ _ _ h => nomatch h
  a := fun _ h => nomatch h
  o := fun x h => by cases x <;> cases h
  i := fun _ _ h => nomatch h
end
end Ng

set_option Elab.async false
set_option linter.all false
set_option maxRecDepth 100000
set_option maxHeartbeats 4000000
/-! Every expression that passes the check is read as the engine evaluates it. -/
namespace Ng
open PySem PySem.Spec PyProof.Rows L2
section
variable {X : Cx} {γ : Nat → Value} {W : WX} {Γ : Gam} {P : Nat → List D → Store → R D}
theorem band {a b : Bool} (h : (a && b) = true) : a = true ∧ b = true := by rwa [Bool.and_eq_true] at h
theorem nodbg_of {x : Str} (h : nodbg x = true) : (x == ("__debug__" : Str)) = false ∧ (x == ("__classdict__" : Str)) = false ∧ x ≠ ("__name__" : Str) := by
  unfold nodbg at h
  obtain ⟨h1, h3⟩ := band h
  obtain ⟨h1, h2⟩ := band h1
  refine ⟨by simpa using h1, by simpa using h2, fun e => ?_⟩
  subst e
  simp at h3
theorem vis_of (G : Good X Γ γ W P) {x : Str} (h : visX Γ x = true) : Vis X.env.scope x := by
  unfold visX at h
  rw [G.sc]
  unfold Vis
  split at h <;> simp_all
theorem gl_of (G : Good X Γ γ W P) {x : Str} (h : glX Γ x = true) : Gl X x := by
  unfold glX at h
  show X.env.scope.names.lookup x = some .globalImplicit
  rw [G.sc]
  exact of_decide_eq_true h
theorem bl_of (G : Good X Γ γ W P) {x : Str} (h : blX Γ x = true) : Gl X x ∧ X.mg x = none := by
  obtain ⟨h1, h2⟩ := band h
  exact ⟨gl_of G h1, G.blt x h2⟩
/-! ### leaves -/
theorem snd_var (G : Good X Γ γ W P) (i : Nat) : Snd X γ W (den P (.var i)) (chk (.var i) Γ) := by
  refine snd_ofV fun x h => ?_
  split at h
  case h_2 => cases h
  case h_1 y p =>
    obtain ⟨h1, h3⟩ := band h
    obtain ⟨h1, h2⟩ := band h1
    obtain ⟨n1, n2, n3⟩ := nodbg_of h3
    refine ⟨pe_imp (pe_var (by rw [G.N]; exact of_decide_eq_true h1) (vis_of G h2) n1 n2) fun σ H Q ⟨μ, ρ, S, s, q⟩ => ?_, fun _ => rfl, fun _ _ _ z => nomatch z⟩
    unfold varR at q
    split at q
    case h_2 => exact q.elim
    case h_1 d hd =>
      obtain ⟨v, h4, r⟩ := s.e.2 i d hd
      exact ⟨v, h4, q.here s r⟩
theorem snd_lit {f : Expr → Bool} {d : D} (h : ∀ x, f x = true → (∃ v, PE X x (tC v) ∧ ∀ H μ, RepV X.K H μ d v) ∧ (∀ whole, isTrue x X.env whole = (do let v ← whole; standAt x.pos; holding [v] (truthy v))) ∧ ∀ op vs pos, x ≠ .BoolOp op vs pos) :
    Snd X γ W (ofV fun _ S => .ok d S) (Ck.ofE f) := by
  refine snd_ofV fun x q => ?_
  obtain ⟨⟨v, h1, h2⟩, h3, h4⟩ := h x q
  exact ⟨pe_imp h1 fun σ H Q ⟨μ, ρ, S, s, q⟩ => q.here s (h2 H μ), h3, h4⟩
theorem snd_glb (G : Good X Γ γ W P) (y : Str) (d : D) : Snd X γ W (den P (.glb y d)) (chk (.glb y d) Γ) := by
  refine snd_lit fun x h => ?_
  split at h
  case h_2 => cases h
  case h_1 z p =>
    obtain ⟨h1, h4⟩ := band h
    obtain ⟨h1, h3⟩ := band h1
    obtain ⟨h1, h2⟩ := band h1
    obtain ⟨n1, n2, n3⟩ := nodbg_of h3
    obtain ⟨u, v, g1, g2, g3⟩ := G.glb z d (of_decide_eq_true h4)
    exact ⟨⟨v, pe_glob (gl_of G h2) g1 g2 n1, g3⟩, fun _ => rfl, fun _ _ _ z => nomatch z⟩
/-! ### operators -/
variable {a b c : E}
theorem snd_bin (o : B2) (ha : Snd X γ W (den P a) (chk a Γ)) (hb : Snd X γ W (den P b) (chk b Γ)) : Snd X γ W (den P (.bin o a b)) (chk (.bin o a b) Γ) := by
  refine snd_ofV fun x h => ?_
  split at h
  case h_2 => cases h
  case h_1 l p r pos =>
    obtain ⟨h1, h3⟩ := band h
    obtain ⟨h1, h2⟩ := band h1
    have e := of_decide_eq_true h1
    subst e
    refine ⟨pe_imp (pe_op (bin_all (γ := γ) (W := W) o) (ha.e _ h2) (hb.e _ h3)) fun σ H Q ⟨μ, ρ, S, s, q⟩ => ?_, fun _ => rfl, fun _ _ _ z => nomatch z⟩
    exact ⟨μ, ρ, S, s, (PostR.bind q).imp fun x H1 ⟨μ1, S1, d1, le1, s1, r1, q1⟩ => ⟨μ1, ρ, S1, s1, (PostR.bind q1).imp fun y H2 ⟨μ2, S2, d2, le2, s2, r2, q2⟩ => ⟨μ2, σ, ρ, S2, d1, d2, s2, r1.mono le2, r2, q2⟩⟩⟩
theorem snd_neg (ha : Snd X γ W (den P a) (chk a Γ)) : Snd X γ W (den P (.neg a)) (chk (.neg a) Γ) := by
  refine snd_ofV fun x h => ?_
  split at h
  case h_2 => cases h
  case h_1 y pos =>
    refine ⟨pe_imp (pe_un (neg_ok (γ := γ) (W := W)) (ha.e _ h)) fun σ H Q ⟨μ, ρ, S, s, q⟩ => ?_, fun _ => rfl, fun _ _ _ z => nomatch z⟩
    exact ⟨μ, ρ, S, s, (PostR.bind q).imp fun x H1 ⟨μ1, S1, d1, le1, s1, r1, q1⟩ => ⟨μ1, σ, ρ, S1, d1, s1, r1, q1⟩⟩
/-- a comparison as a test -/
theorem cmpT_of {K : PySem.W.Frag} {μ : Mu} {H : Hp} {σ : L2.St} {ρ : Env} {S : Store} {o : CO} {x y : D} {Q : Bool → Hp → Prop} (q : PostR K γ W relEq μ H σ ρ (cmpT o x y S) Q) :
    PostR K γ W (relV K) μ H σ ρ (cmpR o x y S) (fun v H' => ∃ k, v = .bl k ∧ Q k H') := by
  unfold cmpT at q
  unfold cmpR
  cases e : cmp2 o x y S with
  | some t =>
    rw [e] at q
    intro μ' H' v le s r
    cases r
    exact ⟨t, rfl, q.later le s rfl⟩
  | none =>
    rw [e] at q
    exact q.elim
theorem snd_cmp (G : Good X Γ γ W P) (o : CO) (ha : Snd X γ W (den P a) (chk a Γ)) (hb : Snd X γ W (den P b) (chk b Γ)) : Snd X γ W (den P (.cmp o a b)) (chk (.cmp o a b) Γ) := by
  have go : ∀ x, (chk (.cmp o a b) Γ).e x = true → ∃ l r pos, x = .Compare l [cmpOf o] [r] pos ∧ (chk a Γ).e l = true ∧ (chk b Γ).e r = true ∧ behindInMarks (cmpOf o) r = false := fun x h => by
    simp only [chk, Ck.ofE] at h
    split at h
    case h_2 => cases h
    case h_1 l p r pos =>
      obtain ⟨h1, h4⟩ := band h
      obtain ⟨h1, h3⟩ := band h1
      obtain ⟨h1, h2⟩ := band h1
      have e := of_decide_eq_true h1
      subst e
      exact ⟨l, r, pos, rfl, h2, h3, by simpa using h4⟩
  refine snd_ofVT (fun x h => ?_) (fun x h => ?_) (fun op vs pos h => ?_)
  · obtain ⟨l, r, pos, rfl, h1, h2, h3⟩ := go x h
    refine pe_imp (pe_cmpR (cmp_all (γ := γ) (W := W) G.un o) (ha.e _ h1) (hb.e _ h2) h3) fun σ H Q ⟨μ, ρ, S, s, q⟩ => ?_
    exact ⟨μ, ρ, S, s, (PostR.bind q).imp fun x H1 ⟨μ1, S1, d1, le1, s1, r1, q1⟩ => ⟨μ1, ρ, S1, s1, (PostR.bind q1).imp fun y H2 ⟨μ2, S2, d2, le2, s2, r2, q2⟩ => ⟨μ2, σ, ρ, S2, d1, d2, s2, r1.mono le2, r2, q2⟩⟩⟩
  · obtain ⟨l, r, pos, rfl, h1, h2, h3⟩ := go x h
    refine pt_imp (pt_cmpR (cmp_all (γ := γ) (W := W) G.un o) (ha.e _ h1) (hb.e _ h2) h3) fun σ H Q ⟨μ, ρ, S, s, q⟩ => ?_
    exact ⟨μ, ρ, S, s, (PostR.bind q).imp fun x H1 ⟨μ1, S1, d1, le1, s1, r1, q1⟩ => ⟨μ1, ρ, S1, s1, (PostR.bind q1).imp fun y H2 ⟨μ2, S2, d2, le2, s2, r2, q2⟩ => ⟨μ2, σ, ρ, S2, d1, d2, s2, r1.mono le2, r2, cmpT_of q2⟩⟩⟩
  · obtain ⟨l, r, pos, e, _⟩ := go (.BoolOp op vs pos) h
    cases e
theorem snd_chain (G : Good X Γ γ W P) (o1 o2 : CO) (ha : Snd X γ W (den P a) (chk a Γ)) (hb : Snd X γ W (den P b) (chk b Γ)) (hc : Snd X γ W (den P c) (chk c Γ)) : Snd X γ W (den P (.chain o1 o2 a b c)) (chk (.chain o1 o2 a b c) Γ) := by
  have go : ∀ x, (chk (.chain o1 o2 a b c) Γ).e x = true → ∃ l r z pos, x = .Compare l [cmpOf o1, cmpOf o2] [r, z] pos ∧ (chk a Γ).e l = true ∧ (chk b Γ).e r = true ∧ (chk c Γ).e z = true ∧ lastMarks [cmpOf o1, cmpOf o2] [r, z] = false := fun x h => by
    simp only [chk, Ck.ofE] at h
    split at h
    case h_2 => cases h
    case h_1 l p p2 r z pos =>
      obtain ⟨h1, h6⟩ := band h
      obtain ⟨h1, h5⟩ := band h1
      obtain ⟨h1, h4⟩ := band h1
      obtain ⟨h1, h3⟩ := band h1
      obtain ⟨h1, h2⟩ := band h1
      have e := of_decide_eq_true h1
      have e2 := of_decide_eq_true h2
      subst e; subst e2
      exact ⟨l, r, z, pos, rfl, h3, h4, h5, by simpa using h6⟩
  refine snd_ofVT (fun x h => ?_) (fun x h => ?_) (fun op vs pos h => ?_)
  · obtain ⟨l, r, z, pos, rfl, h1, h2, h3, h4⟩ := go x h
    refine pe_imp (pe_chain (cmp_all (γ := γ) (W := W) G.un o1) (cmp_all (γ := γ) (W := W) G.un o2) (ha.e _ h1) (hb.e _ h2) (hc.e _ h3) h4) fun σ H Q ⟨μ, ρ, S, s, q⟩ => ?_
    refine ⟨μ, ρ, S, s, (PostR.bind q).imp fun x H1 ⟨μ1, S1, d1, le1, s1, r1, q1⟩ => ⟨μ1, ρ, S1, s1, (PostR.bind q1).imp fun y H2 ⟨μ2, S2, d2, le2, s2, r2, q2⟩ => ?_⟩⟩
    unfold chainV at q2
    split at q2
    case h_1 e =>
      refine ⟨μ2, σ, ρ, S2, d1, d2, s2, r1.mono le2, r2, ?_⟩
      unfold cmpR
      rw [e]
      intro μ3 H3 v3 le3 s3 r3
      cases r3
      refine ⟨true, rfl, ?_⟩
      rw [if_pos rfl]
      exact ⟨μ3, ρ, S2, s3, (PostR.bind (q2.base le3)).imp fun z H4 ⟨μ4, S4, d4, le4, s4, r4, q4⟩ => ⟨μ4, σ, ρ, S4, d2, d4, s4, (r2.mono le3).mono le4, r4, q4⟩⟩
    case h_2 e =>
      refine ⟨μ2, σ, ρ, S2, d1, d2, s2, r1.mono le2, r2, ?_⟩
      unfold cmpR
      rw [e]
      intro μ3 H3 v3 le3 s3 r3
      cases r3
      refine ⟨false, rfl, ?_⟩
      rw [if_neg Bool.false_ne_true]
      exact q2.later le3 s3 (.bl false)
    case h_3 => exact q2.elim
  · obtain ⟨l, r, z, pos, rfl, h1, h2, h3, h4⟩ := go x h
    refine pt_imp (pt_chain (cmp_all (γ := γ) (W := W) G.un o1) (cmp_all (γ := γ) (W := W) G.un o2) (ha.e _ h1) (hb.e _ h2) (hc.e _ h3) h4) fun σ H Q ⟨μ, ρ, S, s, q⟩ => ?_
    refine ⟨μ, ρ, S, s, (PostR.bind q).imp fun x H1 ⟨μ1, S1, d1, le1, s1, r1, q1⟩ => ⟨μ1, ρ, S1, s1, (PostR.bind q1).imp fun y H2 ⟨μ2, S2, d2, le2, s2, r2, q2⟩ => ?_⟩⟩
    unfold chainT at q2
    split at q2
    case h_1 e =>
      refine ⟨μ2, σ, ρ, S2, d1, d2, s2, r1.mono le2, r2, ?_⟩
      unfold cmpR
      rw [e]
      intro μ3 H3 v3 le3 s3 r3
      cases r3
      refine ⟨true, rfl, ?_⟩
      rw [if_pos rfl]
      refine ⟨μ3, ρ, S2, s3, (PostR.bind (q2.base le3)).imp fun z H4 ⟨μ4, S4, d4, le4, s4, r4, q4⟩ => ?_⟩
      exact ⟨μ4, σ, ρ, S4, d2, d4, s4, (r2.mono le3).mono le4, r4, cmpT_of q4⟩
    case h_2 e =>
      refine ⟨μ2, σ, ρ, S2, d1, d2, s2, r1.mono le2, r2, ?_⟩
      unfold cmpR
      rw [e]
      intro μ3 H3 v3 le3 s3 r3
      cases r3
      refine ⟨false, rfl, ?_⟩
      rw [if_neg Bool.false_ne_true]
      exact ⟨false, rfl, q2.later le3 s3 rfl⟩
    case h_3 => exact q2.elim
  · obtain ⟨l, r, z, pos, e, _⟩ := go (.BoolOp op vs pos) h
    cases e
/-! ### not, and, or, a if c else b -/
theorem snd_not (ha : Snd X γ W (den P a) (chk a Γ)) : Snd X γ W (den P (.not a)) (chk (.not a) Γ) := by
  have go : ∀ x, (chk (.not a) Γ).e x = true → ∃ y pos, x = .UnaryOp .Not y pos ∧ (chk a Γ).e y = true := fun x h => by
    simp only [chk, Ck.ofE] at h
    split at h
    case h_2 => cases h
    case h_1 y pos => exact ⟨y, pos, rfl, h⟩
  refine snd_ofVT (fun x h => ?_) (fun x h => ?_) (fun op vs pos h => ?_)
  · obtain ⟨y, pos, rfl, h1⟩ := go x h
    refine pe_imp (pe_notT (ha.e _ h1)) fun σ H Q ⟨μ, ρ, S, s, q⟩ => ?_
    refine ⟨μ, ρ, S, s, (PostR.bind q).imp fun x H1 ⟨μ1, S1, d1, le1, s1, r1, q1⟩ => ?_⟩
    unfold truR at q1
    split at q1
    case h_1 k e => exact ⟨k, tru_of s1 r1 e, PostR.here q1 s1 (.bl _)⟩
    case h_2 => exact q1.elim
  · obtain ⟨y, pos, rfl, h1⟩ := go x h
    refine pt_imp (pt_not (ha.t _ h1)) fun σ H Q ⟨μ, ρ, S, s, q⟩ => ?_
    exact ⟨μ, ρ, S, s, (PostR.bind q).imp fun x H1 ⟨μ1, S1, d1, le1, s1, r1, q1⟩ => by cases r1; exact q1.here s1 rfl⟩
  · obtain ⟨y, pos, e, _⟩ := go (.BoolOp op vs pos) h
    cases e
theorem rest_e {op : BoolOp} {pos : Pos} (hb : Snd X γ W (den P b) (chk b Γ)) : ∀ {r : List Expr}, ckRest (chk b Γ).e op pos r = true → ∃ y r', r = y :: r' ∧ PE X (.BoolOp op r pos) (tE X.K γ W (den P b).v)
  | [], h => nomatch h
  | [y], h => ⟨y, [], rfl, pe_one (hb.e y h)⟩
  | y :: z :: r, h => ⟨y, z :: r, rfl, hb.e _ h⟩
theorem and_t {pos : Pos} (hb : Snd X γ W (den P b) (chk b Γ)) : ∀ {r : List Expr}, ckRest (chk b Γ).e .And pos r = true → PW X (.BoolOp .And r pos) (tT X.K γ W (den P b).t)
  | [], h => nomatch h
  | [y], h => pw_and1 (hb.t y h)
  | y :: z :: r, h => hb.w _ _ _ h
theorem or_t {pos : Pos} (hb : Snd X γ W (den P b) (chk b Γ)) : ∀ {r : List Expr}, ckRest (chk b Γ).e .Or pos r = true → PW X (.BoolOp .Or r pos) (tT X.K γ W (den P b).t)
  | [], h => nomatch h
  | [y], h => pw_or1 (hb.t y h)
  | y :: z :: r, h => hb.w _ _ _ h
theorem snd_and (ha : Snd X γ W (den P a) (chk a Γ)) (hb : Snd X γ W (den P b) (chk b Γ)) : Snd X γ W (den P (.and a b)) (chk (.and a b) Γ) := by
  have go : ∀ x, (chk (.and a b) Γ).e x = true → ∃ y r pos, x = .BoolOp .And (y :: r) pos ∧ (chk a Γ).e y = true ∧ ckRest (chk b Γ).e .And pos r = true := fun x h => by
    simp only [chk, Ck.ofE] at h
    split at h
    case h_2 => cases h
    case h_1 y r pos => obtain ⟨h1, h2⟩ := band h; exact ⟨y, r, pos, rfl, h1, h2⟩
  have tt : ∀ y r pos, (chk a Γ).e y = true → ckRest (chk b Γ).e .And pos r = true → PW X (.BoolOp .And (y :: r) pos) (tT X.K γ W (den P (.and a b)).t) := fun y r pos h1 h2 => by
    obtain ⟨z, r', rfl, _⟩ := rest_e (op := .And) hb h2
    refine pw_imp (pw_and (ha.t _ h1) (and_t hb h2)) fun σ H Q ⟨μ, ρ, S, s, q⟩ => ?_
    refine ⟨μ, ρ, S, s, (PostR.bind q).imp fun x H1 ⟨μ1, S1, d1, le1, s1, r1, q1⟩ => ?_⟩
    have e1 : d1 = x := r1
    subst e1
    cases d1 with
    | true => rw [if_pos rfl]; exact ⟨μ1, ρ, S1, s1, q1⟩
    | false => rw [if_neg Bool.false_ne_true]; exact q1.here s1 rfl
  refine snd_ofVT (fun x h => ?_) (fun x h => ?_) (fun op vs pos h => ?_)
  · obtain ⟨y, r, pos, rfl, h1, h2⟩ := go x h
    obtain ⟨z, r', rfl, h3⟩ := rest_e (op := .And) hb h2
    refine pe_imp (pe_andT (ha.e _ h1) h3) fun σ H Q ⟨μ, ρ, S, s, q⟩ => ?_
    refine ⟨μ, ρ, S, s, (PostR.bind q).imp fun x H1 ⟨μ1, S1, d1, le1, s1, r1, q1⟩ => ?_⟩
    unfold andR at q1
    split at q1
    case h_1 e => exact ⟨true, tru_of s1 r1 e, by rw [if_pos rfl]; exact ⟨μ1, ρ, S1, s1, q1⟩⟩
    case h_2 e => exact ⟨false, tru_of s1 r1 e, by rw [if_neg Bool.false_ne_true]; exact q1.here s1 r1⟩
    case h_3 => exact q1.elim
  · obtain ⟨y, r, pos, rfl, h1, h2⟩ := go x h
    exact (tt y r pos h1 h2).pt
  · obtain ⟨y, r, pos', e, h1, h2⟩ := go (.BoolOp op vs pos) h
    cases e
    exact tt y r pos h1 h2
theorem snd_or (ha : Snd X γ W (den P a) (chk a Γ)) (hb : Snd X γ W (den P b) (chk b Γ)) : Snd X γ W (den P (.or a b)) (chk (.or a b) Γ) := by
  have go : ∀ x, (chk (.or a b) Γ).e x = true → ∃ y r pos, x = .BoolOp .Or (y :: r) pos ∧ (chk a Γ).e y = true ∧ ckRest (chk b Γ).e .Or pos r = true := fun x h => by
    simp only [chk, Ck.ofE] at h
    split at h
    case h_2 => cases h
    case h_1 y r pos => obtain ⟨h1, h2⟩ := band h; exact ⟨y, r, pos, rfl, h1, h2⟩
  have tt : ∀ y r pos, (chk a Γ).e y = true → ckRest (chk b Γ).e .Or pos r = true → PW X (.BoolOp .Or (y :: r) pos) (tT X.K γ W (den P (.or a b)).t) := fun y r pos h1 h2 => by
    obtain ⟨z, r', rfl, _⟩ := rest_e (op := .Or) hb h2
    refine pw_imp (pw_or (ha.t _ h1) (or_t hb h2)) fun σ H Q ⟨μ, ρ, S, s, q⟩ => ?_
    refine ⟨μ, ρ, S, s, (PostR.bind q).imp fun x H1 ⟨μ1, S1, d1, le1, s1, r1, q1⟩ => ?_⟩
    have e1 : d1 = x := r1
    subst e1
    cases d1 with
    | true => rw [if_pos rfl]; exact q1.here s1 rfl
    | false => rw [if_neg Bool.false_ne_true]; exact ⟨μ1, ρ, S1, s1, q1⟩
  refine snd_ofVT (fun x h => ?_) (fun x h => ?_) (fun op vs pos h => ?_)
  · obtain ⟨y, r, pos, rfl, h1, h2⟩ := go x h
    obtain ⟨z, r', rfl, h3⟩ := rest_e (op := .Or) hb h2
    refine pe_imp (pe_orT (ha.e _ h1) h3) fun σ H Q ⟨μ, ρ, S, s, q⟩ => ?_
    refine ⟨μ, ρ, S, s, (PostR.bind q).imp fun x H1 ⟨μ1, S1, d1, le1, s1, r1, q1⟩ => ?_⟩
    unfold orR at q1
    split at q1
    case h_1 e => exact ⟨true, tru_of s1 r1 e, by rw [if_pos rfl]; exact q1.here s1 r1⟩
    case h_2 e => exact ⟨false, tru_of s1 r1 e, by rw [if_neg Bool.false_ne_true]; exact ⟨μ1, ρ, S1, s1, q1⟩⟩
    case h_3 => exact q1.elim
  · obtain ⟨y, r, pos, rfl, h1, h2⟩ := go x h
    exact (tt y r pos h1 h2).pt
  · obtain ⟨y, r, pos', e, h1, h2⟩ := go (.BoolOp op vs pos) h
    cases e
    exact tt y r pos h1 h2
theorem snd_ite (hc : Snd X γ W (den P c) (chk c Γ)) (ha : Snd X γ W (den P a) (chk a Γ)) (hb : Snd X γ W (den P b) (chk b Γ)) : Snd X γ W (den P (.ite c a b)) (chk (.ite c a b) Γ) := by
  have go : ∀ x, (chk (.ite c a b) Γ).e x = true → ∃ t y z pos, x = .IfExp t y z pos ∧ (chk c Γ).e t = true ∧ (chk a Γ).e y = true ∧ (chk b Γ).e z = true := fun x h => by
    simp only [chk, Ck.ofE] at h
    split at h
    case h_2 => cases h
    case h_1 t y z pos => obtain ⟨h1, h3⟩ := band h; obtain ⟨h1, h2⟩ := band h1; exact ⟨t, y, z, pos, rfl, h1, h2, h3⟩
  refine snd_ofVT (fun x h => ?_) (fun x h => ⟨fun pins s σ H Q I ⟨μ, ρ, S, s1, q⟩ => q.elim⟩) (fun op vs pos h => ?_)
  · obtain ⟨t, y, z, pos, rfl, h1, h2, h3⟩ := go x h
    refine pe_imp (pe_ifExp (hc.t _ h1) (ha.e _ h2) (hb.e _ h3)) fun σ H Q ⟨μ, ρ, S, s, q⟩ => ?_
    refine ⟨μ, ρ, S, s, (PostR.bind q).imp fun x H1 ⟨μ1, S1, d1, le1, s1, r1, q1⟩ => ?_⟩
    have e1 : d1 = x := r1
    subst e1
    cases d1 with
    | true => rw [if_pos rfl]; exact ⟨μ1, ρ, S1, s1, q1⟩
    | false => rw [if_neg Bool.false_ne_true]; exact ⟨μ1, ρ, S1, s1, q1⟩
  · obtain ⟨t, y, z, pos, e, _⟩ := go (.BoolOp op vs pos) h
    cases e
/-! ### arguments, displays -/
/-- no star in a text that passes -/
theorem star_of (ha : Snd X γ W (den P a) (chk a Γ)) : ∀ x, (chk a Γ).e x = true → ∀ es, starEach (x :: es) X.env = (false, eval x X.env) :: starEach es X.env := by
  intro x h es
  cases x <;> first | rfl | skip
  rename_i y p
  exfalso
  cases a <;> simp [chk, Ck.ofE, Ck.no] at h
theorem snd_nil : Snd X γ W (den P .nil) (chk .nil Γ) where
  e := fun _ h => nomatch h
  t := fun _ h => nomatch h
  w := fun _ _ _ h => nomatch h
  a := fun xs h => by
    cases xs with
    | nil => exact pa_imp pa_nil fun σ H Q ⟨μ, ρ, S, s, q⟩ => q.here s .nil
    | cons => cases h
  o := fun x h => by
    cases x with
    | none => exact po_imp po_none fun σ H Q ⟨μ, ρ, S, s, q⟩ => q.here s rfl
    | some => cases h
  i := fun _ _ h => nomatch h
theorem snd_cons (ha : Snd X γ W (den P a) (chk a Γ)) (hb : Snd X γ W (den P b) (chk b Γ)) : Snd X γ W (den P (.cons a b)) (chk (.cons a b) Γ) where
  e := fun _ h => nomatch h
  t := fun _ h => nomatch h
  w := fun _ _ _ h => nomatch h
  a := fun xs h => by
    cases xs with
    | nil => cases h
    | cons x r =>
      obtain ⟨h1, h2⟩ := band h
      refine pa_imp (pa_cons (ha.e _ h1) (hb.a _ h2) (star_of ha x h1 r)) fun σ H Q ⟨μ, ρ, S, s, q⟩ => ?_
      exact ⟨μ, ρ, S, s, (PostR.bind q).imp fun x H1 ⟨μ1, S1, d1, le1, s1, r1, q1⟩ => ⟨μ1, ρ, S1, s1, (PostR.bind q1).imp fun y H2 ⟨μ2, S2, d2, le2, s2, r2, q2⟩ => q2.here s2 (.cons (r1.mono le2) r2)⟩⟩
  o := fun _ h => nomatch h
  i := fun _ _ h => nomatch h
theorem snd_tup (ha : Snd X γ W (den P a) (chk a Γ)) : Snd X γ W (den P (.tup a)) (chk (.tup a) Γ) := by
  refine snd_ofV fun x h => ?_
  split at h
  case h_2 => cases h
  case h_1 es k pos =>
    refine ⟨pe_imp (pe_tup (ha.a _ h)) fun σ H Q ⟨μ, ρ, S, s, q⟩ => ?_, fun _ => rfl, fun _ _ _ z => nomatch z⟩
    refine ⟨μ, ρ, S, s, (PostR.bind q).imp fun xs H1 ⟨μ1, S1, d1, le1, s1, r1, q1⟩ => ?_⟩
    unfold tupR at q1
    split at q1
    case isTrue hz => exact ⟨by rw [RepVs.length r1, ← linesz_eq]; exact hz, q1.newT s1 r1⟩
    case isFalse => exact q1.elim
theorem snd_lst (ha : Snd X γ W (den P a) (chk a Γ)) : Snd X γ W (den P (.lst a)) (chk (.lst a) Γ) := by
  refine snd_ofV fun x h => ?_
  split at h
  case h_2 => cases h
  case h_1 es pos =>
    refine ⟨pe_imp (pe_lst (ha.a _ h)) fun σ H Q ⟨μ, ρ, S, s, q⟩ => ?_, fun _ => rfl, fun _ _ _ z => nomatch z⟩
    refine ⟨μ, ρ, S, s, (PostR.bind q).imp fun xs H1 ⟨μ1, S1, d1, le1, s1, r1, q1⟩ => ?_⟩
    unfold lstR at q1
    split at q1
    case isTrue hz => exact ⟨by rw [RepVs.length r1, ← linesz_eq]; exact hz, q1.newL s1 r1⟩
    case isFalse => exact q1.elim
theorem no_slice : ∀ i, (chk b Γ).e i = true → ∀ l u s p, i ≠ .Slice l u s p := fun i h l u s p e => by
  subst e
  cases b <;> simp [chk, Ck.ofE, Ck.no] at h
theorem plain_ix (hb : ∀ l u s p, b' ≠ Expr.Slice l u s p) : PlainIx b' := fun o i => by
  cases b' <;> first | rfl | exact absurd rfl (hb _ _ _ _)
theorem snd_ix (ha : Snd X γ W (den P a) (chk a Γ)) (hb : Snd X γ W (den P b) (chk b Γ)) : Snd X γ W (den P (.ix a b)) (chk (.ix a b) Γ) := by
  refine snd_ofV fun x h => ?_
  split at h
  case h_2 => cases h
  case h_1 o i pos =>
    obtain ⟨h1, h2⟩ := band h
    refine ⟨pe_imp (pe_ix (ix_all (γ := γ) (W := W)) (ha.e _ h1) (hb.e _ h2) (plain_ix (no_slice i h2))) fun σ H Q ⟨μ, ρ, S, s, q⟩ => ?_, fun _ => rfl, fun _ _ _ z => nomatch z⟩
    exact ⟨μ, ρ, S, s, (PostR.bind q).imp fun x H1 ⟨μ1, S1, d1, le1, s1, r1, q1⟩ => ⟨μ1, ρ, S1, s1, (PostR.bind q1).imp fun y H2 ⟨μ2, S2, d2, le2, s2, r2, q2⟩ => ⟨μ2, σ, ρ, S2, d1, d2, s2, r1.mono le2, r2, q2⟩⟩⟩
theorem snd_slc {lo hi : E} (ha : Snd X γ W (den P a) (chk a Γ)) (hl : Snd X γ W (den P lo) (chk lo Γ)) (hh : Snd X γ W (den P hi) (chk hi Γ)) : Snd X γ W (den P (.slc a lo hi)) (chk (.slc a lo hi) Γ) := by
  refine snd_ofV fun x h => ?_
  split at h
  case h_2 => cases h
  case h_1 o l u p2 pos =>
    obtain ⟨h1, h3⟩ := band h
    obtain ⟨h1, h2⟩ := band h1
    refine ⟨pe_imp (pe_slice (slc_all (γ := γ) (W := W)) (ha.e _ h1) (hl.o _ h2) (hh.o _ h3)) fun σ H Q ⟨μ, ρ, S, s, q⟩ => ?_, fun _ => rfl, fun _ _ _ z => nomatch z⟩
    refine ⟨μ, ρ, S, s, (PostR.bind q).imp fun x H1 ⟨μ1, S1, d1, le1, s1, r1, q1⟩ => ⟨μ1, ρ, S1, s1, (PostR.bind q1).imp fun l H2 ⟨μ2, S2, o2, le2, s2, r2, q2⟩ => ⟨μ2, ρ, S2, s2, (PostR.bind q2).imp fun u H3 ⟨μ3, S3, o3, le3, s3, r3, q3⟩ => ?_⟩⟩⟩
    cases r2; cases r3
    exact ⟨μ3, σ, ρ, S3, d1, s3, (RepV.mono le2 r1).mono le3, q3⟩
end
end Ng

set_option Elab.async false
set_option linter.all false
set_option maxRecDepth 100000
set_option maxHeartbeats 4000000
/-! Calls, built-ins, methods, comprehensions. -/
namespace Ng
open PySem PySem.Spec PyProof.Rows L2
section
variable {X : Cx} {γ : Nat → Value} {W : WX} {Γ : Gam} {P : Nat → List D → Store → R D} {a b c : E}
theorem star1 : ∀ (a : E) x, (chk a Γ).e x = true → ∀ es env, starEach (x :: es) env = (false, eval x env) :: starEach es env := by
  intro a x h es env
  cases x <;> first | rfl | skip
  rename_i y p
  exfalso
  cases a <;> simp [chk, Ck.ofE, Ck.no] at h
theorem nostar : ∀ (a : E) es, (chk a Γ).a es = true → ∀ env pos, (backTo pos (starEach es env)).any (·.1) = false
  | .nil, es, h, env, pos => by
    cases es with
    | nil => rfl
    | cons => cases h
  | .cons a as, es, h, env, pos => by
    cases es with
    | nil => cases h
    | cons x r =>
      obtain ⟨h1, h2⟩ := band h
      have ih := nostar as r h2 env pos
      rw [star1 a x h1]
      show (false || (backTo pos (starEach r env)).any (·.1)) = false
      rw [ih]; rfl
  | .var _, _, h, _, _ => nomatch h
  | .non, _, h, _, _ => nomatch h
  | .bl _, _, h, _, _ => nomatch h
  | .int _, _, h, _, _ => nomatch h
  | .str _, _, h, _, _ => nomatch h
  | .glb _ _, _, h, _, _ => nomatch h
  | .bin _ _ _, _, h, _, _ => nomatch h
  | .neg _, _, h, _, _ => nomatch h
  | .cmp _ _ _, _, h, _, _ => nomatch h
  | .chain _ _ _ _ _, _, h, _, _ => nomatch h
  | .not _, _, h, _, _ => nomatch h
  | .and _ _, _, h, _, _ => nomatch h
  | .or _ _, _, h, _, _ => nomatch h
  | .ite _ _ _, _, h, _, _ => nomatch h
  | .tup _, _, h, _, _ => nomatch h
  | .lst _, _, h, _, _ => nomatch h
  | .ix _ _, _, h, _, _ => nomatch h
  | .slc _ _ _, _, h, _, _ => nomatch h
  | .call _ _, _, h, _, _ => nomatch h
  | .bi _ _, _, h, _, _ => nomatch h
  | .me _ _ _, _, h, _, _ => nomatch h
  | .isi _ _ _, _, h, _, _ => nomatch h
  | .rng _, _, h, _, _ => nomatch h
  | .enm _, _, h, _, _ => nomatch h
  | .zp _ _, _, h, _, _ => nomatch h
  | .itm _, _, h, _, _ => nomatch h
  | .lc _ _ _ _ _, _, h, _, _ => nomatch h
/-- the first of some arguments -/
theorem star_a : ∀ (a : E) e es, (chk a Γ).a (e :: es) = true → ∀ env, starEach (e :: es) env = (false, eval e env) :: starEach es env ∧ ∀ pos, (backTo pos (starEach es env)).any (·.1) = false := by
  intro a e es h env
  cases a <;> first | (exfalso; revert h; simp [chk, Ck.ofE, Ck.no]; done) | skip
  rename_i a as
  obtain ⟨h1, h2⟩ := band h
  exact ⟨star1 a e h1 es env, fun pos => nostar as es h2 env pos⟩
/-! ### own defs -/
theorem pe_callS0 {CX : CXT} {k : Nat} {f : Addr} {fd : FuncData} {ps : List Str} {sp : Sp} {E : L2.St → XK} {x : Str} {p pos : Pos} (F : FnOk X.prog X.w X.K X.mg X.base CX k f fd ps sp) (hr : Room k X.A) (hg : Gl X x) (hm : X.mg x = some (.ref f)) (hk : PySem.W.keepIn X.K (.ref f) = true)
    (hb : Binds X.K fd ps []) (hx : ∀ σ, PassesAt CX X σ (E σ)) (hdb : (x == ("__debug__" : Str)) = false) : PE X (.Call (.Name x p) [] [] pos) (tCallSD sp [] E tNil) := by
  refine ⟨fun pins s σ H Q I h => ?_⟩
  refine wpAny_Call_Name_kw (ld_glob I hg hm ?_ hdb)
  exact PySem.W.callWith_K0 I.kIn hk (run_fnSD (us := []) F hr hb .nil (hx σ) I .nil h)
theorem sp_of {np f : Nat} {μ : Mu} {σ : L2.St} {H : Hp} {ρ : Env} {S : Store} {ds : List D} {vs : List V} {Q : VK} (hl : ∀ ds S, P f ds S ≠ .bad → ds.length = np) (s : Sim X.K μ σ H ρ S) (r : RepVs X.K H μ ds vs) (q : PostR X.K γ W (relV X.K) μ H σ ρ (P f ds S) Q) :
    spF X.K γ P np f vs H Q (WE W σ) := by
  refine ⟨?_, μ, S, ds, s.s, r, ?_⟩
  · rw [r.length]
    refine hl ds S fun e => ?_
    rw [e] at q
    exact q
  · cases e : P f ds S with
    | ok d S' =>
      rw [e] at q
      exact fun μ' v H' le rs rv => q μ' H' v le ⟨s.e.mono le, rs⟩ rv
    | exc c fs S' =>
      rw [e] at q
      exact fun μ' H' d le rs x => q μ' H' d le ⟨s.e.mono le, rs⟩ x
    | bad => rw [e] at q; exact q
theorem snd_call (G : Good X Γ γ W P) (f : Nat) (ha : Snd X γ W (den P a) (chk a Γ)) : Snd X γ W (den P (.call f a)) (chk (.call f a) Γ) := by
  refine snd_ofV fun x h => ?_
  split at h
  case h_2 => cases h
  case h_1 x p es pos =>
    obtain ⟨h1, h5⟩ := band h
    obtain ⟨h1, h4⟩ := band h1
    obtain ⟨h1, h3⟩ := band h1
    obtain ⟨h1, h2⟩ := band h1
    obtain ⟨k, addr, fd, ps, np, F, hl, hr, hm, hk, hb⟩ := G.fns h1 f x (of_decide_eq_true h2)
    obtain ⟨n1, n2, n3⟩ := nodbg_of h4
    refine ⟨?_, fun _ => rfl, fun _ _ _ z => nomatch z⟩
    cases es with
    | nil =>
      refine pe_imp (pe_callS0 F hr (gl_of G h3) hm hk hb (fun σ => passAt G.tk σ) n1) fun σ H Q ⟨μ, ρ, S, s, q⟩ => ?_
      have e : evs P a = fun ρ S => .ok [] S := by
        cases a <;> first | rfl | (exfalso; revert h5; simp [chk, Ck.ofE, Ck.no]; done)
      change PostR X.K γ W (relV X.K) μ H σ ρ ((evs P a ρ S).bind fun ds S1 => P f ds S1) Q at q
      rw [e] at q
      exact sp_of hl s .nil q
    | cons e es =>
      obtain ⟨s1, s2⟩ := star_a a e es h5 X.env
      refine pe_imp (pe_callSD F hr (gl_of G h3) hm hk hb .nil (fun σ => passAt G.tk σ) (ha.a _ h5) n1 s1 (s2 pos)) fun σ H Q ⟨μ, ρ, S, s, q⟩ => ?_
      refine ⟨μ, ρ, S, s, (PostR.bind q).imp fun xs H1 ⟨μ1, S1, ds, le1, s1, r1, q1⟩ => ?_⟩
      rw [List.append_nil]
      exact sp_of hl s1 r1 q1
/-! ### built-ins -/
theorem vs1 {K : PySem.W.Frag} {μ : Mu} {H : Hp} {d : D} {xs : List V} (r : RepVs K H μ [d] xs) : ∃ v, xs = [v] ∧ RepV K H μ d v := by
  cases r with
  | cons r1 r2 => cases r2; exact ⟨_, rfl, r1⟩
theorem vs2 {K : PySem.W.Frag} {μ : Mu} {H : Hp} {d e : D} {xs : List V} (r : RepVs K H μ [d, e] xs) : ∃ v u, xs = [v, u] ∧ RepV K H μ d v ∧ RepV K H μ e u := by
  cases r with
  | cons r1 r2 =>
    cases r2 with
    | cons r2 r3 => cases r3; exact ⟨_, _, rfl, r1, r2⟩
theorem vs3 {K : PySem.W.Frag} {μ : Mu} {H : Hp} {d e f : D} {xs : List V} (r : RepVs K H μ [d, e, f] xs) : ∃ v u w, xs = [v, u, w] ∧ RepV K H μ d v ∧ RepV K H μ e u ∧ RepV K H μ f w := by
  cases r with
  | cons r1 r2 =>
    obtain ⟨u, w, rfl, h1, h2⟩ := vs2 r2
    exact ⟨_, u, w, rfl, r1, h1, h2⟩
theorem bls_of {K : PySem.W.Frag} {μ : Mu} {H : Hp} : ∀ {ds : List D} {vs : List V} {bs : List Bool}, RepVs K H μ ds vs → blsD ds = some bs → vs = bs.map V.bl
  | [], _, _, .nil, e => by cases e; rfl
  | d :: ds, _, _, .cons r rs, e => by
    cases d <;> simp only [blsD] at e <;> first | (cases e; done) | skip
    simp only [Option.map_eq_some_iff] at e
    obtain ⟨bs, e1, rfl⟩ := e
    cases r
    rw [bls_of rs e1]; rfl
theorem ints_of {K : PySem.W.Frag} {μ : Mu} {H : Hp} : ∀ {ds : List D} {vs : List V} {bs : List Int}, RepVs K H μ ds vs → intsD ds = some bs → vs = bs.map V.int
  | [], _, _, .nil, e => by cases e; rfl
  | d :: ds, _, _, .cons r rs, e => by
    cases d <;> simp only [intsD] at e <;> first | (cases e; done) | skip
    simp only [Option.map_eq_some_iff] at e
    obtain ⟨bs, e1, rfl⟩ := e
    cases r
    rw [ints_of rs e1]; rfl
theorem bi_len : CallR X (.builtin "len") (callV X.K γ W (biD .len)) := by
  refine callR_imp (call_len_seq.or call_len_str) fun xs H Q ⟨μ, σ, ρ, S, ds, s, r, q⟩ => ?_
  cases ds with
  | nil => exact q.elim
  | cons d ds =>
    cases ds with
    | cons => cases d <;> exact q.elim
    | nil =>
      obtain ⟨v, rfl, rv⟩ := vs1 r
      have key : ∀ xs, seqD S d = some xs → PostR X.K γ W (relV X.K) μ H σ ρ (.ok (.int xs.length) S) Q → (∃ p ys, [v] = [V.ref p] ∧ (SqL X.K H p ys ∨ SqT X.K H p ys) ∧ Q (.int ys.length) H) := fun xs e q => by
        obtain ⟨p, vs, rfl, hq, r1⟩ := s.seq rv e
        exact ⟨p, vs, rfl, hq, by rw [r1.length]; exact q.here s (.int _)⟩
      cases d with
      | str x =>
        cases rv
        simp only [biD] at q
        split at q
        case isTrue hz => exact .inr ⟨x, rfl, by rw [← linesz_eq]; exact hz, q.here s (.int _)⟩
        case isFalse => exact q.elim
      | tup es => exact .inl (key es rfl q)
      | ref n =>
        simp only [biD] at q
        split at q
        case h_1 xs e => exact .inl (key xs e q)
        case h_2 => exact q.elim
      | _ => exact q.elim
theorem bi_abs : CallR X (.builtin "abs") (callV X.K γ W (biD .abs)) := by
  refine callR_imp call_abs fun xs H Q ⟨μ, σ, ρ, S, ds, s, r, q⟩ => ?_
  unfold biD at q
  split at q <;> first | contradiction | (cases q; done) | skip
  obtain ⟨v, rfl, rv⟩ := vs1 r
  cases rv
  exact ⟨_, rfl, q.here s (.int _)⟩
theorem bi_min2 (hc : X.calm = true) : CallR X (.builtin "min") (callV X.K γ W (biD .min2)) := by
  refine callR_imp (call_min2 hc) fun xs H Q ⟨μ, σ, ρ, S, ds, s, r, q⟩ => ?_
  unfold biD at q
  split at q <;> first | contradiction | (cases q; done) | skip
  obtain ⟨v, u, rfl, rv, ru⟩ := vs2 r
  cases rv; cases ru
  exact ⟨_, _, rfl, q.here s (.int _)⟩
theorem bi_max2 (hc : X.calm = true) : CallR X (.builtin "max") (callV X.K γ W (biD .max2)) := by
  refine callR_imp (call_max2 hc) fun xs H Q ⟨μ, σ, ρ, S, ds, s, r, q⟩ => ?_
  unfold biD at q
  split at q <;> first | contradiction | (cases q; done) | skip
  obtain ⟨v, u, rfl, rv, ru⟩ := vs2 r
  cases rv; cases ru
  exact ⟨_, _, rfl, q.here s (.int _)⟩
theorem bi_max3 (hc : X.calm = true) : CallR X (.builtin "max") (callV X.K γ W (biD .max3)) := by
  refine callR_imp (call_max3Nu hc) fun xs H Q ⟨μ, σ, ρ, S, ds, s, r, q⟩ => ?_
  unfold biD at q
  split at q <;> first | contradiction | (cases q; done) | skip
  obtain ⟨v, u, w, rfl, rv, ru, rw'⟩ := vs3 r
  cases rv; cases ru; cases rw'
  rename_i i j k e1 e2
  refine ⟨_, _, _, _, rfl, ?_, q.here s (.int _)⟩
  by_cases h1 : i < j
  · by_cases h2 : j < k <;> simp [nuMax3, nuMax2, nuLt, nuCB, h1, h2]
  · by_cases h2 : i < k <;> simp [nuMax3, nuMax2, nuLt, nuCB, h1, h2]
theorem bi_min3 (hc : X.calm = true) : CallR X (.builtin "min") (callV X.K γ W (biD .min3)) := by
  refine callR_imp (call_min3Nu hc) fun xs H Q ⟨μ, σ, ρ, S, ds, s, r, q⟩ => ?_
  unfold biD at q
  split at q <;> first | contradiction | (cases q; done) | skip
  obtain ⟨v, u, w, rfl, rv, ru, rw'⟩ := vs3 r
  cases rv; cases ru; cases rw'
  rename_i i j k e1 e2
  refine ⟨_, _, _, _, rfl, ?_, q.here s (.int _)⟩
  by_cases h1 : j < i
  · by_cases h2 : k < j <;> simp [nuMin3, nuMin2, nuLt, nuCB, h1, h2]
  · by_cases h2 : k < i <;> simp [nuMin3, nuMin2, nuLt, nuCB, h1, h2]
theorem bi_int : CallR X (.type "int") (callV X.K γ W (biD .int)) := by
  refine callR_imp call_int1 fun xs H Q ⟨μ, σ, ρ, S, ds, s, r, q⟩ => ?_
  unfold biD at q
  split at q <;> first | contradiction | (cases q; done) | skip
  · obtain ⟨v, rfl, rv⟩ := vs1 r
    cases rv
    exact .inl ⟨_, rfl, q.here s (.int _)⟩
  · obtain ⟨v, rfl, rv⟩ := vs1 r
    cases rv
    exact .inr ⟨_, rfl, q.here s (.int _)⟩
theorem bi_str : CallR X (.type "str") (callV X.K γ W (biD .str)) := by
  refine callR_imp call_str_int fun xs H Q ⟨μ, σ, ρ, S, ds, s, r, q⟩ => ?_
  unfold biD at q
  split at q <;> first | contradiction | (cases q; done) | skip
  obtain ⟨v, rfl, rv⟩ := vs1 r
  cases rv
  split at q
  case isTrue hz => exact ⟨_, rfl, hz, q.here s (.str _)⟩
  case isFalse => exact q.elim
theorem bi_tuple : CallR X (.type "tuple") (callV X.K γ W (biD .tuple)) := by
  refine callR_imp call_tuple_of fun xs H Q ⟨μ, σ, ρ, S, ds, s, r, q⟩ => ?_
  unfold biD at q
  split at q <;> first | contradiction | (cases q; done) | skip
  rename_i d
  obtain ⟨v, rfl, rv⟩ := vs1 r
  split at q
  case h_2 => exact q.elim
  case h_1 es e =>
    obtain ⟨p, vs, rfl, hq, r1⟩ := s.seq rv e
    refine ⟨p, vs, rfl, ?_⟩
    rcases hq with hq | hq
    · exact .inl ⟨hq, q.newT s r1⟩
    · exact .inr ⟨hq, q.here s (.tup hq r1)⟩
theorem bi_list : CallR X (.type "list") (callV X.K γ W (biD .list)) := by
  refine callR_imp call_list_of fun xs H Q ⟨μ, σ, ρ, S, ds, s, r, q⟩ => ?_
  unfold biD at q
  split at q <;> first | contradiction | (cases q; done) | skip
  obtain ⟨v, rfl, rv⟩ := vs1 r
  split at q
  case h_2 => exact q.elim
  case h_1 es e =>
    obtain ⟨p, vs, rfl, hq, r1⟩ := s.seq rv e
    exact ⟨p, vs, rfl, hq, q.newL s r1⟩
theorem seq_ref {K : PySem.W.Frag} {μ : Mu} {H : Hp} {σ : L2.St} {ρ : Env} {S : Store} {n : Nat} {es : List D} {v : V} (s : Sim K μ σ H ρ S) (rv : RepV K H μ (.ref n) v) (e : seqD S (.ref n) = some es) : ∃ p vs, v = .ref p ∧ SqL K H p vs ∧ RepVs K H μ es vs := by
  simp only [seqD] at e
  split at e
  · cases e
    obtain ⟨p, vs, h1, h2, h3, _⟩ := s.list rv (by assumption)
    exact ⟨p, vs, h1, .of h2, h3⟩
  · cases e
    obtain ⟨p, vs, h1, h2, h3, _⟩ := s.roL rv (by assumption)
    exact ⟨p, vs, h1, h2.sq, h3⟩
  · cases e
theorem bi_any (hc : X.calm = true) : CallR X (.builtin "any") (callV X.K γ W (biD .any)) := by
  refine callR_imp (cr_any hc) fun xs H Q ⟨μ, σ, ρ, S, ds, s, r, q⟩ => ?_
  unfold biD at q
  split at q <;> first | contradiction | (cases q; done) | skip
  obtain ⟨v, rfl, rv⟩ := vs1 r
  split at q
  case h_2 => exact q.elim
  case h_1 bs e =>
    simp only [Option.bind_eq_some_iff] at e
    obtain ⟨es, e1, e2⟩ := e
    obtain ⟨p, vs, rfl, hq, r1⟩ := seq_ref s rv e1
    exact ⟨p, bs, rfl, by rw [← bls_of r1 e2]; exact hq, q.here s (.bl _)⟩
theorem bi_all (hc : X.calm = true) : CallR X (.builtin "all") (callV X.K γ W (biD .all)) := by
  refine callR_imp (cr_all hc) fun xs H Q ⟨μ, σ, ρ, S, ds, s, r, q⟩ => ?_
  unfold biD at q
  split at q <;> first | contradiction | (cases q; done) | skip
  obtain ⟨v, rfl, rv⟩ := vs1 r
  split at q
  case h_2 => exact q.elim
  case h_1 bs e =>
    simp only [Option.bind_eq_some_iff] at e
    obtain ⟨es, e1, e2⟩ := e
    obtain ⟨p, vs, rfl, hq, r1⟩ := seq_ref s rv e1
    exact ⟨p, bs, rfl, by rw [← bls_of r1 e2]; exact hq, q.here s (.bl _)⟩
theorem bi_sum (hc : X.calm = true) : CallR X (.builtin "sum") (callV X.K γ W (biD .sum)) := by
  refine callR_imp (cr_sum hc) fun xs H Q ⟨μ, σ, ρ, S, ds, s, r, q⟩ => ?_
  unfold biD at q
  split at q <;> first | contradiction | (cases q; done) | skip
  obtain ⟨v, rfl, rv⟩ := vs1 r
  split at q
  case h_2 => exact q.elim
  case h_1 bs e =>
    simp only [Option.bind_eq_some_iff] at e
    obtain ⟨es, e1, e2⟩ := e
    obtain ⟨p, vs, rfl, hq, r1⟩ := seq_ref s rv e1
    exact ⟨p, bs, rfl, by rw [← ints_of r1 e2]; exact hq, q.here s (.int _)⟩
theorem b_abs : bootBuiltins "abs" = some (.builtin "abs") := by decide +kernel
/-- f(..), f a built-in -/
theorem pe_bi (G : Good X Γ γ W P) (f : Bi) {p pos : Pos} {e : Expr} {es : List Expr} {t : TA} (hc : X.calm = true) (hb : blX Γ (biName f) = true) (hf : 0 < biArgs f) (ha : PA X (e :: es) t)
    (s1 : starEach (e :: es) X.env = (false, eval e X.env) :: starEach es X.env) (s2 : (backTo pos (starEach es X.env)).any (·.1) = false) :
    PE X (.Call (.Name (biName f) p) (e :: es) [] pos) (tCB (callV X.K γ W (biD f)) t) := by
  obtain ⟨g1, g2⟩ := bl_of G hb
  cases f <;> first | (exfalso; revert hf; decide) | skip
  · exact pe_callB bi_len g1 g2 PySem.boot_len ha (by decide) (by decide) s1 s2
  · exact pe_callB bi_abs g1 g2 b_abs ha (by decide) (by decide) s1 s2
  · exact pe_callB (bi_min2 hc) g1 g2 PyProof.Rows.boot_min ha (by decide) (by decide) s1 s2
  · exact pe_callB (bi_max2 hc) g1 g2 PyProof.Rows.boot_max ha (by decide) (by decide) s1 s2
  · exact pe_callB (bi_min3 hc) g1 g2 PyProof.Rows.boot_min ha (by decide) (by decide) s1 s2
  · exact pe_callB (bi_max3 hc) g1 g2 PyProof.Rows.boot_max ha (by decide) (by decide) s1 s2
  · exact pe_callTy bi_int g1 g2 (by decide +kernel) ha (by decide) (by decide) s1 s2
  · exact pe_callTy bi_str g1 g2 (by decide +kernel) ha (by decide) (by decide) s1 s2
  · exact pe_callTy bi_tuple g1 g2 (by decide +kernel) ha (by decide) (by decide) s1 s2
  · exact pe_callTy bi_list g1 g2 (by decide +kernel) ha (by decide) (by decide) s1 s2
  · exact pe_callB (bi_any hc) g1 g2 (by decide +kernel) ha (by decide) (by decide) s1 s2
  · exact pe_callB (bi_all hc) g1 g2 (by decide +kernel) ha (by decide) (by decide) s1 s2
  · exact pe_callB (bi_sum hc) g1 g2 (by decide +kernel) ha (by decide) (by decide) s1 s2
theorem snd_bi (G : Good X Γ γ W P) (f : Bi) (ha : Snd X γ W (den P a) (chk a Γ)) : Snd X γ W (den P (.bi f a)) (chk (.bi f a) Γ) := by
  refine snd_ofV fun x h => ?_
  split at h
  case h_2 => cases h
  case h_1 x p es pos =>
    obtain ⟨g1, h5⟩ := band h
    obtain ⟨g2, h4⟩ := band g1
    obtain ⟨g3, h3⟩ := band g2
    obtain ⟨h1, h2⟩ := band g3
    clear g1 g2 g3 h
    refine ⟨?_, fun _ => rfl, fun _ _ _ z => nomatch z⟩
    have e2 := of_decide_eq_true h2
    subst e2
    have hl := of_decide_eq_true h4
    cases es with
    | nil =>
      have : evs P a = fun ρ S => .ok [] S := by
        cases a <;> first | rfl | (exfalso; revert h5; simp [chk, Ck.ofE, Ck.no]; done)
      refine ⟨fun pins s σ H Q I ⟨μ, ρ, S, s1, q⟩ => ?_⟩
      change PostR X.K γ W (relV X.K) μ H σ ρ ((evs P a ρ S).bind fun ds S1 => biD f ds S1) Q at q
      rw [this] at q
      exfalso
      change PostR X.K γ W (relV X.K) μ H σ ρ (biD f [] S) Q at q
      have e : biD f [] S = .bad := by cases f <;> rfl
      rw [e] at q
      exact q
    | cons e es =>
      obtain ⟨s1, s2⟩ := star_a a e es h5 X.env
      refine pe_imp (pe_bi (γ := γ) (W := W) G f (G.calm h1) h3 (by rw [← hl]; exact Nat.succ_pos _) (ha.a _ h5) s1 (s2 pos)) fun σ H Q ⟨μ, ρ, S, s, q⟩ => ?_
      exact ⟨μ, ρ, S, s, (PostR.bind q).imp fun xs H1 ⟨μ1, S1, ds, le1, s1, r1, q1⟩ => ⟨μ1, σ, ρ, S1, ds, s1, r1, q1⟩⟩
/-! ### methods -/
theorem base_of : ∀ (a : E) o, (chk a Γ).e o = true → (∀ f as ks p, o ≠ .Call f as ks p) → ∀ name env, attributeBase o name env (eval o env) = eval o env := by
  intro a o h hn name env
  cases o <;> first | rfl | exact absurd rfl (hn _ _ _ _)
theorem me_append : MtR X "list.append" (methV X.K γ W (meD .append)) := by
  refine mtR_imp mt_append fun x xs H Q ⟨μ, σ, ρ, S, d, ds, s, r, rs, q⟩ => ?_
  unfold meD at q
  split at q <;> first | contradiction | (cases q; done) | skip
  obtain ⟨v, rfl, rv⟩ := vs1 rs
  split at q
  case h_2 => exact q.elim
  case h_1 es e =>
    split at q
    case isFalse => exact q.elim
    case isTrue hz =>
      obtain ⟨p, vs, rfl, h1, r1, hm⟩ := s.list r e
      exact ⟨p, vs, v, rfl, rfl, h1, by rw [r1.length, ← linesz_eq]; exact hz, q.later (le_upd h1) (s.write e hm h1 (r1.append (.cons rv .nil))) .non⟩
theorem snd_me (G : Good X Γ γ W P) (m : Me) (hb : Snd X γ W (den P b) (chk b Γ)) (ha : Snd X γ W (den P a) (chk a Γ)) : Snd X γ W (den P (.me m b a)) (chk (.me m b a) Γ) := by
  refine snd_ofV fun x h => ?_
  split at h
  case h_2 => cases h
  case h_1 v x apos e pos =>
    obtain ⟨h1, h5⟩ := band h
    obtain ⟨h1, h4⟩ := band h1
    obtain ⟨h1, h3⟩ := band h1
    obtain ⟨h1, h2⟩ := band h1
    refine ⟨?_, fun _ => rfl, fun _ _ _ z => nomatch z⟩
    obtain ⟨s1, s2⟩ := star_a a e [] h5 X.env
    have hp : ∀ f as ks p, v ≠ .Call f as ks p := fun f as ks p e => by subst e; simp [plainObj] at h3
    cases m <;> first | (cases h1; done) | skip
    have e1 := of_decide_eq_true h1
    subst e1
    refine pe_imp (pe_bm PySem.F.plainAttrs_list PySem.F.slot_list_append PySem.F.type_list_append (me_append (γ := γ) (W := W)) (hb.e _ h4) (ha.a _ h5) (base_of b v h4 hp _ _) (by rw [s1]; rfl) h2 s1 rfl) fun σ H Q ⟨μ, ρ, S, s, q⟩ => ?_
    refine ⟨μ, ρ, S, s, (PostR.bind q).imp fun x H1 ⟨μ1, S1, d, le1, s1, r1, q1⟩ => ?_⟩
    have go : ∀ b : Bool, PostR X.K γ W (relV X.K) μ1 H1 σ ρ (bif b then (evs P a ρ S1).bind fun ds S2 => meD .append d ds S2 else .bad) Q → b = true ∧ PostR X.K γ W (relV X.K) μ1 H1 σ ρ ((evs P a ρ S1).bind fun ds S2 => meD .append d ds S2) Q := fun b z => by
      cases b with
      | true => exact ⟨rfl, z⟩
      | false => exact z.elim
    obtain ⟨ok, q2⟩ := go _ q1
    refine ⟨?_, μ1, ρ, S1, s1, (PostR.bind q2).imp fun xs H2 ⟨μ2, S2, ds, le2, s2, r2, q3⟩ => ⟨μ2, σ, ρ, S2, d, ds, s2, RepV.mono le2 r1, r2, q3⟩⟩
    unfold meOk at ok
    split at ok
    case h_2 => cases ok
    case h_1 n =>
      split at ok
      case h_2 => cases ok
      case h_1 es e =>
        obtain ⟨p, vs, rfl, h6, r3, hm⟩ := s1.list r1 e
        exact .inl ⟨rfl, vs, .of h6⟩
end
end Ng

set_option Elab.async false
set_option linter.all false
set_option maxRecDepth 100000
set_option maxHeartbeats 4000000
/-! isinstance, range, comprehensions; the whole induction. -/
namespace Ng
open PySem PySem.Spec PyProof.Rows L2
section
variable {X : Cx} {γ : Nat → Value} {W : WX} {Γ : Gam} {P : Nat → List D → Store → R D} {a b c : E}
/-! ### isinstance -/
def tnames : List String := ["NoneType", "bool", "int", "str", "tuple", "list", "dict"]
theorem kit_tab : (tnames.all fun n => [Ty.int, .bool, .str, .tuple, .list, .dict].all fun t => decide (kitB n (tyName t) = some (n == tyName t || (n == "bool" && t == .int)))) = true := by decide +kernel
theorem kit_at {n : String} (hn : n ∈ tnames) (t : Ty) : kitB n (tyName t) = some (n == tyName t || (n == "bool" && t == .int)) := by
  have h := List.all_eq_true.mp kit_tab n hn
  have h2 := List.all_eq_true.mp h t (by cases t <;> decide)
  exact of_decide_eq_true h2
theorem ty_of {K : PySem.W.Frag} {μ : Mu} {H : Hp} {σ : L2.St} {ρ : Env} {S : Store} (s : Sim K μ σ H ρ S) {d : D} {v : V} (r : RepV K H μ d v) (hx : ∃ t b, isTy S t d = some b) :
    ∃ n, n ∈ tnames ∧ TyX K H v (.type n) ∧ ∀ t, isTy S t d = some (n == tyName t || (n == "bool" && t == .int)) := by
  obtain ⟨t0, b0, h0⟩ := hx
  cases r with
  | non => exact ⟨"NoneType", by decide, .base .non, fun t => by cases t <;> rfl⟩
  | bl b => exact ⟨"bool", by decide, .base (.bl b), fun t => by cases t <;> rfl⟩
  | int i => exact ⟨"int", by decide, .base (.int i), fun t => by cases t <;> rfl⟩
  | str x => exact ⟨"str", by decide, .base (.str x), fun t => by cases t <;> rfl⟩
  | tup h r =>
    refine ⟨"tuple", by decide, ?_, fun t => by cases t <;> rfl⟩
    rcases h with (h | ⟨o, h⟩) | ⟨o, its, n, h, c, _⟩
    · exact .base (.tup h)
    · exact .fTuple h
    · exact .kTuple h c
  | @ref n a hm =>
    simp only [isTy] at h0 ⊢
    split at h0
    · rename_i es e
      obtain ⟨vs, h1, _⟩ := s.s.cell n _ _ e hm
      exact ⟨"list", by decide, .base (.lst h1), fun t => by cases t <;> rfl⟩
    · rename_i es e
      obtain ⟨vs, h1, _⟩ := s.s.cell n _ _ e hm
      refine ⟨"list", by decide, ?_, fun t => by cases t <;> rfl⟩
      rcases h1 with ⟨o, h1⟩ | ⟨o, its, n, h1, c, _⟩
      · exact .base (.frz h1)
      · exact .kList h1 c
    · rename_i es e
      exact (s.s.cell n _ _ e hm).elim
    · cases h0
theorem kit_any {K : PySem.W.Frag} {S : Store} {d : D} {n : String} (hn : n ∈ tnames) (h : ∀ t, isTy S t d = some (n == tyName t || (n == "bool" && t == .int))) :
    ∀ (ts : List Ty) (b : Bool), isTys S d ts = some b → PySem.W.kitAny K (.type n) (ts.map fun t => Value.type (tyName t)) = some b
  | [], b, e => by cases e; rfl
  | t :: ts, b, e => by
    simp only [isTys, h t] at e
    split at e
    case h_2 => cases e
    case h_1 x y e1 e2 =>
      cases e1
      cases e
      have ih := kit_any (K := K) hn h ts y e2
      refine kitAny_cons (kit_ty (kit_at hn t)) (fun z => ?_) (fun z => ?_)
      · rw [z]; simpa using ih
      · rw [z]; rfl
theorem pe_ty {Γ : Gam} (G : Good X Γ γ W P) (t : Ty) : ∀ e, tyExpr Γ t e = true → PE X e (tC (.ty (tyName t))) := by
  intro e h
  unfold tyExpr at h
  split at h
  case h_2 => cases h
  case h_1 x p =>
    obtain ⟨h1, h2⟩ := band h
    have e1 := of_decide_eq_true h1
    subst e1
    obtain ⟨g1, g2⟩ := bl_of G h2
    cases t
    · exact pe_bltn g1 g2 (u := .type "int") (by decide +kernel) rfl
    · exact pe_bltn g1 g2 (u := .type "bool") (by decide +kernel) rfl
    · exact pe_bltn g1 g2 (u := .type "str") (by decide +kernel) rfl
    · exact pe_bltn g1 g2 (u := .type "tuple") (by decide +kernel) rfl
    · exact pe_bltn g1 g2 (u := .type "list") (by decide +kernel) rfl
    · exact pe_bltn g1 g2 (u := .type "dict") (by decide +kernel) rfl
theorem ty_star {t : Ty} {e : Expr} (h : tyExpr Γ t e = true) : ∀ es env, starEach (e :: es) env = (false, eval e env) :: starEach es env := by
  intro es env
  cases e <;> first | rfl | (exfalso; simp [tyExpr] at h)
theorem pa_tys (G : Good X Γ γ W P) : ∀ (ts : List Ty) (es : List Expr), tyExprs Γ ts es = true → PA X es (fun _ H Q => Q (ts.map fun t => V.ty (tyName t)) H)
  | [], [], _ => pa_nil
  | [], _ :: _, h => nomatch h
  | _ :: _, [], h => nomatch h
  | t :: ts, e :: es, h => by
    obtain ⟨h1, h2⟩ := band h
    exact pa_cons (pe_ty G t e h1) (pa_tys G ts es h2) (ty_star h1 es _)
theorem paired_ty (ts : List Ty) : Paired ClsV (ts.map fun t => V.ty (tyName t)) (ts.map fun t => Value.type (tyName t)) := by
  induction ts with
  | nil => exact .nil
  | cons t ts ih => exact .cons (.ty _) ih
theorem isTys_some {S : Store} {d : D} : ∀ {ts : List Ty} {b : Bool}, ts ≠ [] → isTys S d ts = some b → ∃ t b, isTy S t d = some b
  | [], _, h, _ => absurd rfl h
  | t :: ts, b, _, e => by
    simp only [isTys] at e
    split at e
    case h_1 x y e1 e2 => exact ⟨t, x, e1⟩
    case h_2 => cases e
theorem snd_isi (G : Good X Γ γ W P) (ts : List Ty) (multi : Bool) (ha : Snd X γ W (den P a) (chk a Γ)) : Snd X γ W (den P (.isi a ts multi)) (chk (.isi a ts multi) Γ) := by
  refine snd_ofV fun x h => ?_
  split at h
  case h_2 => cases h
  case h_1 x p y z pos =>
    obtain ⟨h1, h4⟩ := band h
    obtain ⟨g1, h3⟩ := band h1
    obtain ⟨g2, h2⟩ := band g1
    obtain ⟨g3, h5⟩ := band g2
    obtain ⟨h6, h7⟩ := band h5
    have h8 := of_decide_eq_true h7
    have e1 := of_decide_eq_true g3
    clear h g1 h1 g2 g3 h5 h7
    subst e1
    obtain ⟨n1, n2⟩ := bl_of G h2
    refine ⟨?_, fun _ => rfl, fun _ _ _ z => nomatch z⟩
    cases multi with
    | false =>
      change tyExprs Γ ts [z] = true at h4
      have : ∃ t, ts = [t] ∧ tyExpr Γ t z = true := by
        cases ts with
        | nil => cases h4
        | cons t ts =>
          cases ts with
          | nil => exact ⟨t, rfl, (band h4).1⟩
          | cons => obtain ⟨_, h6⟩ := band h4; cases h6
      obtain ⟨t, rfl, ht⟩ := this
      refine pe_imp (pe_callB call_isi n1 n2 PyProof.Rows.boot_isinstance (pa_cons (ha.e _ h3) (pa_cons (pe_ty G t z ht) pa_nil (ty_star ht _ _)) (star1 a y h3 _ _)) (by decide) (by decide) (star1 a y h3 _ _) (by rw [ty_star ht]; rfl)) fun σ H Q ⟨μ, ρ, S, s, q⟩ => ?_
      refine ⟨μ, ρ, S, s, (PostR.bind q).imp fun x H1 ⟨μ1, S1, d, le1, s1, r1, q1⟩ => ?_⟩
      unfold isiR at q1
      split at q1
      case h_2 => exact q1.elim
      case h_1 b e =>
        obtain ⟨n, hn, ty, hk⟩ := ty_of s1 r1 (isTys_some (by simp) e)
        refine ⟨x, .ty (tyName t), .type n, .type (tyName t), _, rfl, .ty _, ty, kit_ty (kit_at hn t), ?_⟩
        simp only [isTys, hk t] at e
        cases e
        simpa using q1.here s1 (.bl _)
    | true =>
      rw [cond_true] at h4
      split at h4
      case h_2 => cases h4
      case h_1 es kk pp =>
        refine pe_imp (pe_callB call_isiT n1 n2 PyProof.Rows.boot_isinstance (pa_cons (ha.e _ h3) (pa_cons (pe_tup (pa_tys G ts es h4)) pa_nil rfl) (star1 a y h3 _ _)) (by decide) (by decide) (star1 a y h3 _ _) rfl) fun σ H Q ⟨μ, ρ, S, s, q⟩ => ?_
        refine ⟨μ, ρ, S, s, (PostR.bind q).imp fun x H1 ⟨μ1, S1, d, le1, s1, r1, q1⟩ => ?_⟩
        unfold isiR at q1
        split at q1
        case h_2 => exact q1.elim
        case h_1 b e =>
          refine ⟨?_, fun p hp => ?_⟩
          · rw [List.length_map]
            exact Nat.le_trans h8 (by decide)
          · cases ts with
            | nil => cases h6
            | cons t ts =>
              have s2 := s1.new (o := .tup ((t :: ts).map fun t => V.ty (tyName t))) hp
              obtain ⟨n, hn, ty, hk⟩ := ty_of s2 (RepV.mono (le_new hp) r1) (isTys_some (by simp) e)
              exact ⟨x, p, _, .type n, _, b, rfl, upd_same, paired_ty _, ty, kit_any hn hk _ b e, q1.later (le_new hp) s2 (.bl _)⟩
/-! ### range -/
theorem PostR.bindE {α α' β β' : Type} {K : PySem.W.Frag} {rel : Mu → Hp → α → β → Prop} {rel' : Mu → Hp → α' → β' → Prop} {μ : Mu} {H : Hp} {σ : L2.St} {ρ : Env} {r : R α} {k : α → Store → R α'} {Q : β' → Hp → Prop} (h : PostR K γ W rel' μ H σ ρ (r.bind k) Q) :
    PostR K γ W rel μ H σ ρ r fun b H1 => ∃ μ1 S1 a, r = .ok a S1 ∧ Le K μ H μ1 H1 ∧ Sim K μ1 σ H1 ρ S1 ∧ rel μ1 H1 a b ∧ PostR K γ W rel' μ1 H1 σ ρ (k a S1) Q := by
  cases r with
  | ok a S' => exact fun μ' H' b l s rl => ⟨μ', S', a, rfl, l, s, rl, PostR.base l h⟩
  | exc c fs S' => exact h
  | bad => exact h
theorem evs_len : ∀ (a : E) es, (chk a Γ).a es = true → ∀ {ρ S ds S'}, (den P a).a ρ S = .ok ds S' → ds.length = es.length
  | .nil, es, h, ρ, S, ds, S', e => by
    cases es with
    | nil => cases e; rfl
    | cons => cases h
  | .cons a as, es, h, ρ, S, ds, S', e => by
    cases es with
    | nil => cases h
    | cons x r =>
      obtain ⟨h1, h2⟩ := band h
      change ((den P a).v ρ S).bind (fun x S1 => ((den P as).a ρ S1).bind fun xs S2 => .ok (x :: xs) S2) = .ok ds S' at e
      cases e1 : (den P a).v ρ S with
      | ok d S1 =>
        rw [e1] at e
        change ((den P as).a ρ S1).bind (fun xs S2 => .ok (d :: xs) S2) = .ok ds S' at e
        cases e2 : (den P as).a ρ S1 with
        | ok ds2 S2 =>
          rw [e2] at e
          cases e
          have ih := evs_len as r h2 e2
          simp [ih]
        | exc c fs S2 => rw [e2] at e; cases e
        | bad => rw [e2] at e; cases e
      | exc c fs S2 => rw [e1] at e; cases e
      | bad => rw [e1] at e; cases e
  | .var _, _, h, _, _, _, _, _ => nomatch h
  | .non, _, h, _, _, _, _, _ => nomatch h
  | .bl _, _, h, _, _, _, _, _ => nomatch h
  | .int _, _, h, _, _, _, _, _ => nomatch h
  | .str _, _, h, _, _, _, _, _ => nomatch h
  | .glb _ _, _, h, _, _, _, _, _ => nomatch h
  | .bin _ _ _, _, h, _, _, _, _, _ => nomatch h
  | .neg _, _, h, _, _, _, _, _ => nomatch h
  | .cmp _ _ _, _, h, _, _, _, _, _ => nomatch h
  | .chain _ _ _ _ _, _, h, _, _, _, _, _ => nomatch h
  | .not _, _, h, _, _, _, _, _ => nomatch h
  | .and _ _, _, h, _, _, _, _, _ => nomatch h
  | .or _ _, _, h, _, _, _, _, _ => nomatch h
  | .ite _ _ _, _, h, _, _, _, _, _ => nomatch h
  | .tup _, _, h, _, _, _, _, _ => nomatch h
  | .lst _, _, h, _, _, _, _, _ => nomatch h
  | .ix _ _, _, h, _, _, _, _, _ => nomatch h
  | .slc _ _ _, _, h, _, _, _, _, _ => nomatch h
  | .call _ _, _, h, _, _, _, _, _ => nomatch h
  | .bi _ _, _, h, _, _, _, _, _ => nomatch h
  | .me _ _ _, _, h, _, _, _, _, _ => nomatch h
  | .isi _ _ _, _, h, _, _, _, _, _ => nomatch h
  | .rng _, _, h, _, _, _, _, _ => nomatch h
  | .enm _, _, h, _, _, _, _, _ => nomatch h
  | .zp _ _, _, h, _, _, _, _, _ => nomatch h
  | .itm _, _, h, _, _, _, _, _ => nomatch h
  | .lc _ _ _ _ _, _, h, _, _, _, _, _ => nomatch h
theorem snd_rng (G : Good X Γ γ W P) (ha : Snd X γ W (den P a) (chk a Γ)) : Snd X γ W (den P (.rng a)) (chk (.rng a) Γ) where
  e := fun _ h => nomatch h
  t := fun _ h => nomatch h
  w := fun _ _ _ h => nomatch h
  a := fun _ h => nomatch h
  o := fun x h => by cases x <;> cases h
  i := fun x tg h => by
    simp only [chk] at h
    split at h
    case h_2 => cases h
    case h_1 x p es pos =>
      obtain ⟨h1, h4⟩ := band h
      obtain ⟨g1, h3⟩ := band h1
      obtain ⟨g2, h2⟩ := band g1
      have e1 := of_decide_eq_true g2
      clear h g1 h1 g2
      subst e1
      obtain ⟨n1, n2⟩ := bl_of G h2
      cases es with
      | nil => cases h3
      | cons e es =>
        obtain ⟨s1, s2⟩ := star_a a e es h4 X.env
        cases es with
        | nil =>
          refine pi_imp (pi_range1 n1 n2 (ha.a _ h4) (by rw [s1]; rfl)) fun σ H R ⟨μ, ρ, S, s, q⟩ => ?_
          refine ⟨μ, ρ, S, s, (PostR.bindE q).imp fun xs H1 ⟨μ1, S1, ds, eq, le1, s1, r1, q1⟩ => ?_⟩
          have hl := evs_len a _ h4 eq
          unfold rngR rgD at q1
          split at q1
          case h_2 => exact q1.elim
          case h_1 it e =>
            split at e
            · obtain ⟨v, rfl, rv⟩ := vs1 r1
              cases rv
              split at e
              case isFalse => cases e
              case isTrue hz =>
                cases e
                exact ⟨_, rfl, by omega, by omega, q1.here s1 wk_rng⟩
            · exfalso; simp at hl
            · cases e
        | cons e2 es =>
          cases es with
          | cons => simp at h3
          | nil =>
            obtain ⟨s3, s4⟩ : starEach [e2] X.env = [(false, eval e2 X.env)] ∧ True := by
              cases a <;> first | (exfalso; revert h4; simp [chk, Ck.ofE, Ck.no]; done) | skip
              rename_i a1 a2
              obtain ⟨_, h5⟩ := band h4
              obtain ⟨s5, _⟩ := star_a a2 e2 [] h5 X.env
              exact ⟨by rw [s5]; rfl, trivial⟩
            refine pi_imp (pi_range2 n1 n2 (ha.a _ h4) (by rw [s1, s3]) s3) fun σ H R ⟨μ, ρ, S, s, q⟩ => ?_
            refine ⟨μ, ρ, S, s, (PostR.bindE q).imp fun xs H1 ⟨μ1, S1, ds, eq, le1, s1, r1, q1⟩ => ?_⟩
            have hl := evs_len a _ h4 eq
            unfold rngR rgD at q1
            split at q1
            case h_2 => exact q1.elim
            case h_1 it e =>
              split at e
              · exfalso; simp at hl
              · obtain ⟨v, u, rfl, rv, ru⟩ := vs2 r1
                cases rv; cases ru
                split at e
                case isFalse => cases e
                case isTrue hz =>
                  cases e
                  exact ⟨_, _, rfl, by omega, q1.here s1 wk_rng⟩
              · cases e
/-! ### targets -/
/-- what an assignment to names wants -/
def gT (K : PySem.W.Frag) (tg : E) : TG := fun v σ H Q => ∃ μ ρ S d ρ', Sim K μ σ H ρ S ∧ RepV K H μ d v ∧ asgT tg d ρ = some ρ' ∧
  ∀ σ', Sim K μ σ' H ρ' S → (∀ i, i ∉ tgSlots tg → σ'[i]? = σ[i]?) → Q σ' H
theorem RepE.set {K : PySem.W.Frag} {H : Hp} {μ : Mu} {σ : L2.St} {ρ : Env} {d : D} {v : V} (r : RepE K H μ σ ρ) (rv : RepV K H μ d v) (i : Nat) : RepE K H μ (σ.set i (some v)) (ρ.set i (some d)) := by
  refine ⟨by simp [r.1], fun j e h => ?_⟩
  by_cases hij : i = j
  · subst hij
    by_cases hi : i < ρ.length
    · rw [List.getElem?_set_self hi] at h
      cases h
      exact ⟨v, by rw [List.getElem?_set_self (by rw [r.1]; exact hi)], rv⟩
    · rw [List.getElem?_eq_none_iff.mpr (by simp; omega)] at h
      cases h
  · rw [List.getElem?_set_ne hij] at h
    obtain ⟨u, h1, h2⟩ := r.2 j e h
    exact ⟨u, by rw [List.getElem?_set_ne hij]; exact h1, h2⟩
theorem pg_nm (G : Good X Γ γ W P) {i : Nat} {x : Str} {p : Pos} (h : ckName Γ i x = true) : PG X (.Name x p) (gName i) := by
  obtain ⟨h1, h2⟩ := band h
  have hN : X.N[i]? = some x := by rw [G.N]; exact of_decide_eq_true h1
  have hs : X.env.scope.names = Γ.sc.names := by rw [G.sc]
  split at h2
  · rename_i e
    exact pg_name G.nd hN (.inl (by rw [hs]; exact e)) (.inr (by rw [hs]; exact e))
  · rename_i e
    exact pg_name G.nd hN (.inr (by rw [hs]; exact e)) (.inl (G.fn x h2))
  · cases h2
theorem pgs_nm (G : Good X Γ γ W P) : ∀ (ts : E) (es : List Expr), ckGs Γ ts es = true → ∃ t, PGs X es t ∧ (∀ vs σ H Q μ ρ S ds ρ', Sim X.K μ σ H ρ S → RepVs X.K H μ ds vs → asgT.asgTs ts ds ρ = some ρ' →
    (∀ σ', Sim X.K μ σ' H ρ' S → (∀ i, i ∉ tgSlots ts → σ'[i]? = σ[i]?) → Q σ' H) → t vs σ H Q) ∧ (assignEach es X.env).length = es.length ∧ (assignEach es X.env).findIdx? (·.1) = none ∧ ∀ ds ρ ρ', asgT.asgTs ts ds ρ = some ρ' → ds.length = es.length := by
  intro ts es
  induction es generalizing ts with
  | nil =>
    intro h
    unfold ckGs at h
    split at h <;> first | (cases h; done) | skip
    · refine ⟨gNil, pgs_nil, fun vs σ H Q μ ρ S ds ρ' s r e q => ?_, rfl, rfl, fun ds ρ ρ' e => ?_⟩
      · cases r with
        | nil => simp only [asgT.asgTs, Option.some.injEq] at e; subst e; exact ⟨rfl, q σ s fun _ _ => rfl⟩
        | cons => simp [asgT.asgTs] at e
      · cases ds with
        | nil => rfl
        | cons => simp [asgT.asgTs] at e
    · rename_i h1; cases h1
  | cons e es ih =>
    intro h
    unfold ckGs at h
    split at h <;> first | (cases h; done) | skip
    · rename_i h1; cases h1
    · rename_i i ts x p es' heq
      cases heq
      obtain ⟨h1, h2⟩ := band h
      obtain ⟨t, pt, ht, hl, hf, hd⟩ := ih ts h2
      refine ⟨gCons (gName i) t, pgs_cons (pg_nm G h1) pt, fun vs σ H Q μ ρ S ds ρ' s r e q => ?_, ?_, ?_, fun ds ρ ρ' e => ?_⟩
      · cases r with
        | nil => simp [asgT.asgTs] at e
        | cons rv rs =>
          simp only [asgT.asgTs] at e
          refine ⟨_, _, rfl, ht _ _ H Q μ _ S _ ρ' ⟨s.e.set rv i, s.s⟩ rs e fun σ' s' hs => q σ' s' fun j hj => ?_⟩
          simp only [tgSlots, List.mem_cons, not_or] at hj
          rw [hs j hj.2, List.getElem?_set_ne (Ne.symm hj.1)]
      · show (assignEach es X.env).length + 1 = _
        rw [hl]; rfl
      · show List.findIdx? (·.1) ((false, _) :: assignEach es X.env) = none
        rw [List.findIdx?_cons]
        simp [hf]
      · cases ds with
        | nil => simp [asgT.asgTs] at e
        | cons d ds =>
          simp only [asgT.asgTs] at e
          simp [hd ds _ ρ' e]
theorem pg_all (G : Good X Γ γ W P) (tg : E) (e : Expr) (h : ckG Γ tg e = true) : PG X e (gT X.K tg) := by
  unfold ckG at h
  split at h
  · rename_i i x p
    refine ⟨fun pins s σ H v u Q I r ⟨μ, ρ, S, d, ρ', s1, rv, e, q⟩ => (pg_nm G h).run pins s σ H v u Q I r ?_⟩
    simp only [asgT, Option.some.injEq] at e
    subst e
    exact q _ ⟨s1.e.set rv i, s1.s⟩ fun j hj => by rw [List.getElem?_set_ne (by simpa [tgSlots, eq_comm] using hj)]
  · rename_i ts es k p
    obtain ⟨h1, h2⟩ := band h
    obtain ⟨t, pt, ht, hl, hf, hd⟩ := pgs_nm G ts es h2
    refine ⟨fun pins s σ H v u Q I r ⟨μ, ρ, S, d, ρ', s1, rv, e, q⟩ => (pg_tup (n := es.length) (G.calm h1) pt hl hf).run pins s σ H v u Q I r ?_⟩
    cases rv with
    | tup g1 g2 => exact ⟨_, _, rfl, g1, by rw [g2.length]; exact hd _ ρ ρ' e, ht _ σ H Q μ ρ S _ ρ' s1 g2 e q⟩
    | _ => cases e
  · cases h
/-! ### comprehensions -/
theorem wipe_same {σ2 σ : L2.St} : ∀ {own : List Nat}, σ2.length = σ.length → (∀ i, i ∉ own → σ2[i]? = σ[i]?) → wipe σ2 own = wipe σ own := by
  intro own hl h
  apply List.ext_getElem?
  intro i
  have key : ∀ (τ : L2.St) (vs : List Nat), (wipe τ vs)[i]? = if i ∈ vs then (if i < τ.length then some none else none) else τ[i]? := by
    intro τ vs
    induction vs with
    | nil => simp [wipe]
    | cons v vs ih =>
      show ((wipe τ vs).set v none)[i]? = _
      by_cases e : v = i
      · subst e
        simp only [List.mem_cons, true_or, if_true]
        by_cases hi : v < τ.length
        · rw [List.getElem?_set_self (by rw [wipe_length]; exact hi), if_pos hi]
        · rw [List.getElem?_eq_none_iff.mpr (by simp [wipe_length]; omega), if_neg hi]
      · rw [List.getElem?_set_ne e, ih]
        simp [Ne.symm e]
  rw [key, key]
  by_cases hi : i ∈ own
  · rw [if_pos hi, if_pos hi, hl]
  · rw [if_neg hi, if_neg hi, h i hi]
theorem RepE.wipe {K : PySem.W.Frag} {H : Hp} {μ : Mu} {σ : L2.St} {ρ : Env} (r : RepE K H μ σ ρ) : ∀ own : List Nat, RepE K H μ (L2.wipe σ own) (wipeE ρ own)
  | [] => r
  | v :: vs => by
    have ih := RepE.wipe r vs
    refine ⟨by simp [L2.wipe, wipeE, ih.1], fun i d h => ?_⟩
    change ((wipeE ρ vs).set v none)[i]? = _ at h
    show ∃ u, ((L2.wipe σ vs).set v none)[i]? = some (some u) ∧ _
    by_cases e : v = i
    · subst e
      by_cases hi : v < (wipeE ρ vs).length
      · rw [List.getElem?_set_self hi] at h; cases h
      · rw [List.getElem?_eq_none_iff.mpr (by simp; omega)] at h; cases h
    · rw [List.getElem?_set_ne e] at h ⊢
      exact ih.2 i d h
theorem relabel_eq {scope : Scope} {env : PySem.Env} (h : env.scope = Γ.sc) : (relabel scope env) = relS scope Γ.sc := by
  rw [← h]; rfl
theorem good_blk (G : Good X Γ γ W P) (scope : Scope) (s : Shared) (H : Hp) (Cc : Addr) (cl : List (Str × Addr)) (fp : List Addr) :
    Good (X.blk s H scope (compEnvC scope cl Cc X.env) fp) (Γ.blk scope) γ (fun _ _ _ _ => False) P where
  N := G.N
  nd := G.nd
  sc := relabel_eq G.sc
  fn := fun x h => h
  calm := G.calm
  un := G.un
  glb := G.glb
  blt := G.blt
  tk := fun u s' ⟨_, _, _, _, _, _, _, _, _, _, _, _, _, _, _, _, w⟩ => w
  fns := G.fns
theorem drop_at {α : Type} {l : List α} {i : Nat} {x : α} (h : l[i]? = some x) : l.drop i = x :: l.drop (i + 1) := by
  obtain ⟨hi, e⟩ := List.getElem?_eq_some_iff.mp h
  rw [List.drop_eq_getElem_cons hi, e]
theorem PostR.cond {α β : Type} {K : PySem.W.Frag} {rel : Mu → Hp → α → β → Prop} {μ : Mu} {H : Hp} {σ : L2.St} {ρ : Env} {b : Bool} {r : R α} {Q : β → Hp → Prop} (h : PostR K γ W rel μ H σ ρ (bif b then r else .bad) Q) : b = true ∧ PostR K γ W rel μ H σ ρ r Q := by
  cases b with
  | true => exact ⟨rfl, h⟩
  | false => exact h.elim
theorem wipeE_length (ρ : Env) : ∀ own : List Nat, (wipeE ρ own).length = ρ.length
  | [] => rfl
  | v :: vs => by
    show ((wipeE ρ vs).set v none).length = _
    rw [List.length_set, wipeE_length ρ vs]
theorem asgs_len : ∀ (ds : List D) (ts : E) (ρ ρ' : Env), asgT.asgTs ts ds ρ = some ρ' → ρ'.length = ρ.length := by
  intro ds
  induction ds with
  | nil =>
    intro ts ρ ρ' h
    unfold asgT.asgTs at h
    split at h
    · cases h; rfl
    · rename_i h1; cases h1
    · cases h
  | cons d ds ih =>
    intro ts ρ ρ' h
    unfold asgT.asgTs at h
    split at h
    · rename_i h1; cases h1
    · rename_i i ts' d' ds' heq
      cases heq
      rw [ih _ _ _ h, List.length_set]
    · cases h
theorem asg_len {tg : E} {d : D} {ρ ρ' : Env} (h : asgT tg d ρ = some ρ') : ρ'.length = ρ.length := by
  unfold asgT at h
  split at h
  · cases h; simp
  · exact asgs_len _ _ _ _ h
  · cases h
theorem lc_turn {K : PySem.W.Frag} {μ : Mu} {H : Hp} {σ : L2.St} {ρ : Env} {b : Bool} {r : R Unit} {n : Nat} {Q : VK} (h : PostR K γ W (relV K) μ H σ ρ ((bif b then r else .bad).bind fun _ S4 => .ok (.ref n) S4) Q) :
    b = true ∧ PostR K γ W (relV K) μ H σ ρ (r.bind fun _ S4 => .ok (.ref n) S4) Q := by
  cases b with
  | true => exact ⟨rfl, h⟩
  | false => exact h.elim
/-- what a comprehension's text brings -/
structure LcParts (X : Cx) (γ : Nat → Value) (W : WX) (v : Env → Store → R D) (el t it : Expr) (ifs : List Expr) (scope : Scope) (own : List (Str × Nat)) (wi : TI) (g : TG) (tt : TT) (te : TE) : Prop where
  hi : PI X t it wi
  ok : BlkOk X.N X.env.scope scope own
  hg : ∀ (s : Shared) (H : Hp) (Cc : Addr) (cl : List (Str × Addr)) (fp : List Addr), PG (X.blk s H scope (compEnvC scope cl Cc X.env) fp) t g
  ht : ∀ (s : Shared) (H : Hp) (Cc : Addr) (cl : List (Str × Addr)) (fp : List Addr), PTs (X.blk s H scope (compEnvC scope cl Cc X.env) fp) ifs tt
  he : ∀ (s : Shared) (H : Hp) (Cc : Addr) (cl : List (Str × Addr)) (fp : List Addr), PE (X.blk s H scope (compEnvC scope cl Cc X.env) fp) el te
  hs : ∀ x, foldedSetIterable it X.env x = pure x
  imp : ∀ σ H Q, tE X.K γ W v σ H Q → tLc wi g tt te (own.map (·.2)) σ H Q
theorem lc_parts (G : Good X Γ γ W P) (own : List Nat) {tg src cond elt : E} (hsrc : Snd X γ W (den P src) (chk src Γ))
    (hcond : ∀ {X : Cx} {Γ : Gam} {W : WX}, Good X Γ γ W P → Snd X γ W (den P cond) (chk cond Γ)) (helt : ∀ {X : Cx} {Γ : Gam} {W : WX}, Good X Γ γ W P → Snd X γ W (den P elt) (chk elt Γ))
    {x : Expr} (h : (chk (.lc own tg src cond elt) Γ).e x = true) : ∃ el t it ifs scope pos wi g tt te, x = .ListComp el [⟨t, it, ifs, 0⟩] scope pos ∧ Γ.calm = true ∧ LcParts X γ W (den P (.lc own tg src cond elt)).v el t it ifs scope (ownOf Γ.N own) wi g tt te := by
  simp only [chk, Ck.ofE] at h
  split at h
  case h_2 => cases h
  case h_1 el t it ifs scope pos =>
    obtain ⟨g1, h9⟩ := band h
    obtain ⟨g2, h8⟩ := band g1
    obtain ⟨g3, h7⟩ := band g2
    obtain ⟨g4, h6⟩ := band g3
    obtain ⟨g5, h5⟩ := band g4
    obtain ⟨g6, h4⟩ := band g5
    obtain ⟨g7, h3⟩ := band g6
    obtain ⟨h1, h2⟩ := band g7
    clear h g1 g2 g3 g4 g5 g6 g7
    have hown := of_decide_eq_true h5
    have hset : ∀ x, foldedSetIterable it X.env x = pure x := fun x => by
      cases it <;> first | rfl | simp [isSet] at h3
    have pts : ∀ (s : Shared) (H : Hp) (Cc : Addr) (cl : List (Str × Addr)) (fp : List Addr), PTs (X.blk s H scope (compEnvC scope cl Cc X.env) fp) ifs (tT X.K γ (fun _ _ _ _ => False) (den P cond).t) := fun s H Cc cl fp => by
      split at h8
      · split at h8
        · refine ⟨fun pins s σ H Q I ⟨μ, ρ, S, s1, q⟩ => pts_nil.run pins s σ H Q I ?_⟩
          exact q.here s1 rfl
        · cases h8
      · exact pts_one ((hcond (good_blk G scope s H Cc cl fp)).t _ h8)
      · cases h8
    refine ⟨el, t, it, ifs, scope, pos, tI X.K γ W (den P src).i, gT X.K tg, tT X.K γ (fun _ _ _ _ => False) (den P cond).t, tE X.K γ (fun _ _ _ _ => False) (den P elt).v, rfl, h1, hsrc.i _ t h2, by rw [G.N, G.sc]; exact blkOk_by h4,
      fun s H Cc cl fp => pg_all (good_blk G scope s H Cc cl fp) tg t h6, pts, fun s H Cc cl fp => (helt (good_blk G scope s H Cc cl fp)).e _ h9, hset, fun σ H Q ⟨μ, ρ, S, s, q⟩ => ?_⟩
    rw [hown]
    refine ⟨μ, ρ, S, s, (PostR.bind (rel := Wk X.K) q).imp fun J H1 ⟨μ1, S1, w, le1, s1, hw, q1⟩ D hD => ?_⟩
    have s2 := s1.alloc (c := .lst []) (o := .lst []) hD ⟨[], upd_same, .nil⟩
    have le2 : Le X.K μ1 H1 (μ1 ++ [D]) (upd H1 D (.lst [])) := le_newP hD
    refine ⟨fun i m Hh => m = w.ds.length - i ∧ ∃ μ' S', Le X.K (μ1 ++ [D]) (upd H1 D (.lst [])) μ' Hh ∧ Sim X.K μ' σ Hh ρ S' ∧ PostR X.K γ W (relV X.K) μ' Hh σ ρ ((lcL S1.length (ckS w.lk) (lcF own tg (den P cond).t (den P elt).v ρ) (w.ds.drop i) S').bind fun _ S4 => .ok (.ref S1.length) S4) Q,
      ⟨_, rfl, μ1 ++ [D], S1 ++ [.lst []], .refl, s2, by rw [List.drop_zero]; exact PostR.base le2 q1⟩, ?_⟩
    rintro i m Hh ⟨rfl, μ', S', le', s', q'⟩
    have hD' : μ'[S1.length]? = some D := le'.at (s1.ref D)
    cases hd : w.ds[i]? with
    | none =>
      rw [List.drop_eq_nil_iff.mpr (List.getElem?_eq_none_iff.mp hd)] at q'
      obtain ⟨hck, q2⟩ := lc_turn q'
      obtain ⟨h10, _⟩ := hw μ' σ Hh ρ S' i (le2.trans le') s' hck
      exact .inl ⟨h10 hd, q2.here s' (.ref hD')⟩
    | some d =>
      rw [drop_at hd] at q'
      obtain ⟨hck, q2⟩ := lc_turn q'
      obtain ⟨_, h11⟩ := hw μ' σ Hh ρ S' i (le2.trans le') s' hck
      obtain ⟨hgo, hy⟩ := h11 d hd
      refine .inr ⟨hgo, fun H'' => ∃ m', m' < w.ds.length - i ∧ m' = w.ds.length - (i + 1) ∧ ∃ μ' S', Le X.K (μ1 ++ [D]) (upd H1 D (.lst [])) μ' H'' ∧ Sim X.K μ' σ H'' ρ S' ∧ PostR X.K γ W (relV X.K) μ' H'' σ ρ ((lcL S1.length (ckS w.lk) (lcF own tg (den P cond).t (den P elt).v ρ) (w.ds.drop (i + 1)) S').bind fun _ S4 => .ok (.ref S1.length) S4) Q,
        fun H'' ⟨m', a1, a2, a3⟩ => ⟨m', a1, a2, a3⟩, fun x H2 hx => ?_⟩
      have hlt : w.ds.length - (i + 1) < w.ds.length - i := by
        have := (List.getElem?_eq_some_iff.mp hd).1
        omega
      obtain ⟨μ2, le3, s3, rx⟩ := hy x H2 hx
      unfold lcF at q2
      cases ea : asgT tg d (wipeE ρ own) with
      | none => rw [ea] at q2; exact q2.elim
      | some ρ2 =>
        rw [ea] at q2
        refine ⟨μ2, wipeE ρ own, S', d, ρ2, ⟨RepE.wipe s3.e own, s3.s⟩, rx, ea, fun σ' s4 hs => ⟨wipe_same (by rw [s4.e.1, asg_len ea, wipeE_length, ← s'.e.1]) fun j hj => ?_, μ2, ρ2, S', s4, ?_⟩⟩
        · rw [hs j fun hm => hj (by simpa using List.all_eq_true.mp h7 j hm), wipe_out hj]
        · change PostR X.K γ W (relV X.K) μ' Hh σ ρ (((match ((den P cond).t ρ2 S').bind (fun b S2 => bif b then ((den P elt).v ρ2 S2).bind fun d S3 => .ok (some d) S3 else .ok none S2) with
            | .ok none S' => lcL S1.length (ckS w.lk) (lcF own tg (den P cond).t (den P elt).v ρ) (w.ds.drop (i + 1)) S'
            | .ok (some d) S' => match S'[S1.length]? with
              | some (.lst acc) => if acc.length < linesz then lcL S1.length (ckS w.lk) (lcF own tg (den P cond).t (den P elt).v ρ) (w.ds.drop (i + 1)) (S'.set S1.length (.lst (acc ++ [d]))) else .bad
              | _ => .bad
            | _ => .bad) : R Unit).bind fun _ S4 => .ok (.ref S1.length) S4) Q at q2
          cases ec : (den P cond).t ρ2 S' with
          | bad => rw [ec] at q2; exact q2.elim
          | exc c fs S2 => rw [ec] at q2; exact q2.elim
          | ok b S2 =>
            rw [ec] at q2
            intro μ3 H3 b' le4 s5 rb
            have e1 : b = b' := rb
            subst e1
            cases b with
            | false =>
              rw [if_neg Bool.false_ne_true]
              exact ⟨_, hlt, rfl, μ3, S2, (le'.trans le3).trans le4, ⟨(s'.e.mono le3).mono le4, s5.s⟩, q2.base (le3.trans le4)⟩
            | true =>
              rw [if_pos rfl]
              refine ⟨μ3, ρ2, S2, s5, ?_⟩
              change PostR X.K γ W (relV X.K) μ' Hh σ ρ (((match ((den P elt).v ρ2 S2).bind (fun d S3 => Ng.R.ok (some d) S3) with
                | .ok none S' => lcL S1.length (ckS w.lk) (lcF own tg (den P cond).t (den P elt).v ρ) (w.ds.drop (i + 1)) S'
                | .ok (some d) S' => match S'[S1.length]? with
                  | some (.lst acc) => if acc.length < linesz then lcL S1.length (ckS w.lk) (lcF own tg (den P cond).t (den P elt).v ρ) (w.ds.drop (i + 1)) (S'.set S1.length (.lst (acc ++ [d]))) else .bad
                  | _ => .bad
                | _ => .bad) : R Unit).bind fun _ S4 => .ok (.ref S1.length) S4) Q at q2
              cases ee : (den P elt).v ρ2 S2 with
              | bad => rw [ee] at q2; exact q2.elim
              | exc c fs S3 => rw [ee] at q2; exact q2.elim
              | ok y S3 =>
                rw [ee] at q2
                intro μ4 H4 yv le5 s6 ry
                have hD4 : μ4[S1.length]? = some D := le5.at (le4.at (le3.at hD'))
                change PostR X.K γ W (relV X.K) μ' Hh σ ρ (((match S3[S1.length]? with
                  | some (.lst acc) => if acc.length < linesz then lcL S1.length (ckS w.lk) (lcF own tg (den P cond).t (den P elt).v ρ) (w.ds.drop (i + 1)) (S3.set S1.length (.lst (acc ++ [y]))) else .bad
                  | _ => .bad) : R Unit).bind fun _ S4 => .ok (.ref S1.length) S4) Q at q2
                split at q2
                case h_2 => exact q2.elim
                case h_1 acc hacc =>
                  split at q2
                  case isFalse => exact q2.elim
                  case isTrue hz =>
                    obtain ⟨vs, h12, r12⟩ := s6.s.cell _ _ _ hacc hD4
                    have le6 := (le3.trans le4).trans le5
                    refine ⟨vs, h12, by rw [r12.length, ← linesz_eq]; exact hz, _, hlt, rfl, μ4, _, (le'.trans le6).trans (le_upd h12), ?_, q2.base (le6.trans (le_upd h12))⟩
                    have s7 : Sim X.K μ4 σ H4 ρ S3 := ⟨s'.e.mono le6, s6.s⟩
                    exact s7.write hacc hD4 h12 (r12.append (.cons ry .nil))
theorem snd_lc (G : Good X Γ γ W P) (own : List Nat) {tg src cond elt : E} (hsrc : Snd X γ W (den P src) (chk src Γ))
    (hcond : ∀ {X : Cx} {Γ : Gam} {W : WX}, Good X Γ γ W P → Snd X γ W (den P cond) (chk cond Γ)) (helt : ∀ {X : Cx} {Γ : Gam} {W : WX}, Good X Γ γ W P → Snd X γ W (den P elt) (chk elt Γ)) :
    Snd X γ W (den P (.lc own tg src cond elt)) (chk (.lc own tg src cond elt) Γ) := by
  refine snd_ofV fun x h => ?_
  obtain ⟨el, t, it, ifs, scope, pos, wi, g, tt, te, rfl, h1, L⟩ := lc_parts G own hsrc hcond helt h
  exact ⟨pe_imp (pe_lc (G.calm h1) G.nd L.hi L.ok L.hg L.ht L.he L.hs) L.imp, fun _ => rfl, fun _ _ _ z => nomatch z⟩
/-- EVERY EXPRESSION -/
theorem snd_all : ∀ (e : E) {X : Cx} {Γ : Gam} {W : WX}, Good X Γ γ W P → Snd X γ W (den P e) (chk e Γ)
  | .var i, _, _, _, G => snd_var G i
  | .non, _, _, _, G => snd_lit fun x h => by
      split at h
      · exact ⟨⟨.non, pe_non, fun _ _ => .non⟩, fun _ => rfl, fun _ _ _ z => nomatch z⟩
      · cases h
  | .bl b, _, _, _, G => snd_lit fun x h => by
      split at h
      · have e := eq_of_beq h
        subst e
        exact ⟨⟨.bl b, pe_bl, fun _ _ => .bl b⟩, fun _ => rfl, fun _ _ _ z => nomatch z⟩
      · cases h
  | .int i, _, _, _, G => snd_lit fun x h => by
      split at h
      · have e := eq_of_beq h
        subst e
        exact ⟨⟨.int i, pe_int, fun _ _ => .int i⟩, fun _ => rfl, fun _ _ _ z => nomatch z⟩
      · cases h
  | .str s, _, _, _, G => snd_lit fun x h => by
      split at h
      · have e := of_decide_eq_true h
        subst e
        exact ⟨⟨.str s, pe_str, fun _ _ => .str s⟩, fun _ => rfl, fun _ _ _ z => nomatch z⟩
      · cases h
  | .glb y d, _, _, _, G => snd_glb G y d
  | .bin o a b, _, _, _, G => snd_bin o (snd_all a G) (snd_all b G)
  | .neg a, _, _, _, G => snd_neg (snd_all a G)
  | .cmp o a b, _, _, _, G => snd_cmp G o (snd_all a G) (snd_all b G)
  | .chain o1 o2 a b c, _, _, _, G => snd_chain G o1 o2 (snd_all a G) (snd_all b G) (snd_all c G)
  | .not a, _, _, _, G => snd_not (snd_all a G)
  | .and a b, _, _, _, G => snd_and (snd_all a G) (snd_all b G)
  | .or a b, _, _, _, G => snd_or (snd_all a G) (snd_all b G)
  | .ite c a b, _, _, _, G => snd_ite (snd_all c G) (snd_all a G) (snd_all b G)
  | .tup a, _, _, _, G => snd_tup (snd_all a G)
  | .lst a, _, _, _, G => snd_lst (snd_all a G)
  | .nil, _, _, _, _ => snd_nil
  | .cons a b, _, _, _, G => snd_cons (snd_all a G) (snd_all b G)
  | .ix a b, _, _, _, G => snd_ix (snd_all a G) (snd_all b G)
  | .slc a l h, _, _, _, G => snd_slc (snd_all a G) (snd_all l G) (snd_all h G)
  | .call f a, _, _, _, G => snd_call G f (snd_all a G)
  | .bi f a, _, _, _, G => snd_bi G f (snd_all a G)
  | .me m b a, _, _, _, G => snd_me G m (snd_all b G) (snd_all a G)
  | .isi a ts m, _, _, _, G => snd_isi G ts m (snd_all a G)
  | .rng a, _, _, _, G => snd_rng G (snd_all a G)
  | .enm _, _, _, _, _ => snd_no
  | .zp _ _, _, _, _, _ => snd_no
  | .itm _, _, _, _, _ => snd_no
  | .lc own tg src cond elt, _, _, _, G => snd_lc G own (snd_all src G) (snd_all cond) (snd_all elt)
end
end Ng

set_option Elab.async false
set_option linter.all false
set_option maxRecDepth 100000
set_option maxHeartbeats 4000000
/-! Statements: what the text must be; that the engine reads it. -/
namespace Ng
open PySem PySem.Spec PyProof.Rows L2

structure CkS where
  s : Stmt → Bool
  b : List Stmt → Bool
def CkS.ofS (f : Stmt → Bool) : CkS := { s := f, b := fun _ => false }
/-- neither a comprehension nor what else is stored in another way -/
def plainVal : Expr → Bool
  | .ListComp .. => false
  | .SetComp .. => false
  | .DictComp .. => false
  | _ => true
def isTup : Expr → Bool
  | .Tuple .. => true
  | .List .. => true
  | _ => false
def isLc : E → Bool
  | .lc .. => true
  | _ => false
/-- a comprehension bound to a local name on its own line -/
def lcSame (Γ : Gam) (x : Str) (px : Pos) : Expr → Bool
  | .ListComp _ _ scope pos => (match Γ.sc.kind with | .function => true | _ => false) && decide (Γ.sc.names.lookup x = some .local) && (px.line == pos.line) && !(scope.names.any fun (n, k) => n == x && (k == .local || k == .cell))
  | _ => false
def par2 (Γ : Gam) (ts vs : List Expr) : Bool := match ts, vs with
  | [.Name x px, .Name y py], [_, _] => decide (Γ.sc.names.lookup x = some .local) && decide (Γ.sc.names.lookup y = some .local) && (px.line == py.line) && decide (x ≠ y) && !(vs.all (foldedForSure 8)) && !(vs.all (constantsAlone 8)) && !(vs.any fun | .Starred .. => true | _ => false)
  | _, _ => false
def notLoc (sc : Scope) (ts : List Expr) : Bool := ts.any fun e => match e with
  | .Name id _ => !decide (sc.names.lookup id = some .local)
  | _ => true
def asgC (Γ : Gam) (ckv : Ck) (cka : E → Ck) (tg e : E) : Stmt → Bool
  | .Assign [t] v _ => (match tg, t with
    | .var i, .Name x p => ckName Γ i x && ckv.e v && (plainVal v || (isLc e && lcSame Γ x p v))
    | .tup ts, .Tuple es _ _ => ckG Γ tg t && ckv.e v && plainVal v && (!(isTup v) || (decide (4 ≤ es.length) || notLoc Γ.sc es) || (match e, v with
      | .tup as, .Tuple vs _ _ => Γ.calm && (match Γ.sc.kind with | .function => true | _ => false) && par2 Γ es vs && (cka as).a vs
      | _, _ => false))
    | _, _ => false)
  | _ => false
def chkC : C → Gam → CkS
  | .skip, _ => { s := fun _ => false, b := fun x => match x with | [] => true | _ => false }
  | .seq a r, Γ => { s := fun _ => false, b := fun x => match x with | [] => false | st :: rest => (chkC a Γ).s st && (chkC r Γ).b rest }
  | .pass, _ => CkS.ofS fun x => match x with | .Pass _ => true | .Expr (.Constant (.str _) _ _) _ => true | _ => false
  | .ex e, Γ => CkS.ofS fun x => match x with | .Expr v _ => (chk e Γ).e v && plainVal v | _ => false
  | .asg tg e, Γ => CkS.ofS (asgC Γ (chk e Γ) (fun a => chk a Γ) tg e)
  | .aug i o e, Γ => CkS.ofS fun x => match x with | .AugAssign (.Name x _) op v _ => ckName Γ i x && decide (op = opOf o) && (chk e Γ).e v | _ => false
  | .ret e, Γ => CkS.ofS fun x => match x with | .Return (some v) _ => (chk e Γ).e v | _ => false
  | .retN, _ => CkS.ofS fun x => match x with | .Return none _ => true | _ => false
  | .ite c a b, Γ => CkS.ofS fun x => match x with | .If t y z _ => (chk c Γ).e t && (chkC a Γ).b y && (chkC b Γ).b z | _ => false
  | .whl _ c b, Γ => CkS.ofS fun x => match x with | .While t y [] _ => (chk c Γ).e t && (chkC b Γ).b y | _ => false
  | .for tg it b, Γ => CkS.ofS fun x => match x with | .For t i y [] _ => Γ.calm && ckG Γ tg t && (chk it Γ).i i && !(isSet i) && (chkC b Γ).b y | _ => false
  | .brk, _ => CkS.ofS fun x => match x with | .Break _ => true | _ => false
  | .cnt, _ => CkS.ofS fun x => match x with | .Continue _ => true | _ => false
  | .raise _, _ => CkS.ofS fun _ => false

section
variable (K : PySem.W.Frag) (γ : Nat → Value) (W : WX)
def PostO (μ : Mu) (H : Hp) (o : O) (D : Ends) : Prop :=
  match o with
  | .nx ρ' S' => ∀ μ' H' σ', Le K μ H μ' H' → Sim K μ' σ' H' ρ' S' → D.nx σ' H'
  | .bk ρ' S' => ∀ μ' H' σ', Le K μ H μ' H' → Sim K μ' σ' H' ρ' S' → D.bk σ' H'
  | .ct ρ' S' => ∀ μ' H' σ', Le K μ H μ' H' → Sim K μ' σ' H' ρ' S' → D.ct σ' H'
  | .ret d S' => ∀ μ' H' v, Le K μ H μ' H' → RepS K H' μ' S' → RepV K H' μ' d v → D.rt v H'
  | .exc c fs ρ' S' => ∀ μ' H' σ' dx, Le K μ H μ' H' → Sim K μ' σ' H' ρ' S' → XD K H' μ' fs dx → W (γ c) dx σ' H'
  | .bad => False
def sR (f : Env → Store → O) : TS := fun D σ H => ∃ μ ρ S, Sim K μ σ H ρ S ∧ PostO K γ W μ H (f ρ S) D
end
structure SndS (X : Cx) (γ : Nat → Value) (W : WX) (f : Env → Store → O) (ck : CkS) : Prop where
  s : ∀ st, ck.s st = true → PS X st (sR X.K γ W f)
  b : ∀ sts, ck.b sts = true → PSs X sts (sR X.K γ W f)
structure GoodS (X : Cx) (Γ : Gam) (γ : Nat → Value) (W : WX) (P : Nat → List D → Store → R D) : Prop extends Good X Γ γ W P where
  own : PassesOwn (model X.prog X.w) X.A X.env X.xe
section
variable {X : Cx} {γ : Nat → Value} {W : WX} {Γ : Gam} {P : Nat → List D → Store → R D} {K : PySem.W.Frag} {μ μ1 : Mu} {H H1 : Hp} {σ : L2.St} {ρ : Env} {S : Store}
theorem PostO.base {o : O} {D : Ends} (l : Le K μ H μ1 H1) (h : PostO K γ W μ H o D) : PostO K γ W μ1 H1 o D := by
  cases o with
  | nx => exact fun μ' H' s l' => h μ' H' s (l.trans l')
  | bk => exact fun μ' H' s l' => h μ' H' s (l.trans l')
  | ct => exact fun μ' H' s l' => h μ' H' s (l.trans l')
  | ret => exact fun μ' H' s l' => h μ' H' s (l.trans l')
  | exc => exact fun μ' H' s d l' => h μ' H' s d (l.trans l')
  | bad => exact h
theorem PostO.of {α β : Type} {rel : Mu → Hp → α → β → Prop} {r : R α} {k : α → Store → O} {D : Ends} (h : PostO K γ W μ H (O.of ρ r k) D) :
    PostR K γ W rel μ H σ ρ r fun b H1 => ∃ μ1 S1 a, r = .ok a S1 ∧ Le K μ H μ1 H1 ∧ Sim K μ1 σ H1 ρ S1 ∧ rel μ1 H1 a b ∧ PostO K γ W μ1 H1 (k a S1) D := by
  cases r with
  | ok a S' => exact fun μ' H' b l s rl => ⟨μ', S', a, rfl, l, s, rl, PostO.base l h⟩
  | exc c fs S' => exact fun μ' H' d l s x => h μ' H' σ d l s x
  | bad => exact h
theorem PostO.seq {o : O} {k : Env → Store → O} {D : Ends} (h : PostO K γ W μ H (o.seq k) D) :
    PostO K γ W μ H o { D with nx := fun σ' H' => ∃ μ' ρ' S', Le K μ H μ' H' ∧ Sim K μ' σ' H' ρ' S' ∧ PostO K γ W μ' H' (k ρ' S') D } := by
  cases o with
  | nx ρ' S' => exact fun μ' H' σ' l s => ⟨μ', ρ', S', l, s, PostO.base l h⟩
  | bk => exact h
  | ct => exact h
  | ret => exact h
  | exc => exact h
  | bad => exact h
theorem snd_ofS {f : Env → Store → O} {ck : Stmt → Bool} (h : ∀ st, ck st = true → PS X st (sR X.K γ W f)) : SndS X γ W f (CkS.ofS ck) := ⟨h, (fun _ h => nomatch h)⟩
/-! ### blocks, small statements -/
theorem ss_skip : SndS X γ W (run P .skip) (chkC .skip Γ) := by
  refine ⟨(fun _ h => nomatch h), fun sts h => ?_⟩
  cases sts with
  | nil => exact pss_imp pss_nil fun D σ H ⟨μ, ρ, S, s, q⟩ => q μ H σ .refl s
  | cons => cases h
theorem ss_seq {a b : C} (ha : SndS X γ W (run P a) (chkC a Γ)) (hb : SndS X γ W (run P b) (chkC b Γ)) : SndS X γ W (run P (.seq a b)) (chkC (.seq a b) Γ) := by
  refine ⟨(fun _ h => nomatch h), fun sts h => ?_⟩
  cases sts with
  | nil => cases h
  | cons st rest =>
    obtain ⟨h1, h2⟩ := band h
    refine pss_imp (pss_cons (ha.s _ h1) (hb.b _ h2)) fun D σ H ⟨μ, ρ, S, s, q⟩ => ?_
    refine ⟨μ, ρ, S, s, ?_⟩
    have q1 := PostO.seq q
    cases e : run P a ρ S with
    | nx ρ' S' =>
      rw [e] at q1
      exact fun μ' H' σ' l s => let ⟨μ2, ρ2, S2, _, s2, q2⟩ := q1 μ' H' σ' l s; ⟨μ2, ρ2, S2, s2, q2⟩
    | bk => rw [e] at q1; exact q1
    | ct => rw [e] at q1; exact q1
    | ret => rw [e] at q1; exact q1
    | exc => rw [e] at q1; exact q1
    | bad => rw [e] at q1; exact q1
theorem ss_pass : SndS X γ W (run P .pass) (chkC .pass Γ) := by
  refine snd_ofS fun st h => ?_
  split at h
  · exact ps_imp ps_pass fun D σ H ⟨μ, ρ, S, s, q⟩ => q μ H σ .refl s
  · exact ps_imp ps_doc fun D σ H ⟨μ, ρ, S, s, q⟩ => q μ H σ .refl s
  · cases h
theorem ss_brk : SndS X γ W (run P .brk) (chkC .brk Γ) := by
  refine snd_ofS fun st h => ?_
  split at h
  · exact ps_imp ps_break fun D σ H ⟨μ, ρ, S, s, q⟩ => q μ H σ .refl s
  · cases h
theorem ss_cnt : SndS X γ W (run P .cnt) (chkC .cnt Γ) := by
  refine snd_ofS fun st h => ?_
  split at h
  · exact ps_imp ps_continue fun D σ H ⟨μ, ρ, S, s, q⟩ => q μ H σ .refl s
  · cases h
theorem ss_ret (G : Good X Γ γ W P) (e : E) : SndS X γ W (run P (.ret e)) (chkC (.ret e) Γ) := by
  refine snd_ofS fun st h => ?_
  split at h
  · refine ps_imp (ps_ret ((snd_all e G).e _ h)) fun D σ H ⟨μ, ρ, S, s, q⟩ => ?_
    exact ⟨μ, ρ, S, s, (PostO.of q).imp fun v H1 ⟨μ1, S1, d, _, le1, s1, r1, q1⟩ => q1 μ1 H1 v .refl s1.s r1⟩
  · cases h
theorem ss_retN : SndS X γ W (run P .retN) (chkC .retN Γ) := by
  refine snd_ofS fun st h => ?_
  split at h
  · exact ps_imp ps_retN fun D σ H ⟨μ, ρ, S, s, q⟩ => q μ H .non .refl s.s .non
  · cases h
theorem sw_plain {v : Expr} (h : plainVal v = true) (t : Option Expr) (l : Nat) (env : PySem.Env) : swapsWith v t l env = pure false := by
  cases v <;> first | rfl | cases h
theorem ss_ex (G : Good X Γ γ W P) (e : E) : SndS X γ W (run P (.ex e)) (chkC (.ex e) Γ) := by
  refine snd_ofS fun st h => ?_
  split at h
  · obtain ⟨h1, h2⟩ := band h
    refine ps_imp (ps_expr ((snd_all e G).e _ h1) (sw_plain h2 _ _ _)) fun D σ H ⟨μ, ρ, S, s, q⟩ => ?_
    exact ⟨μ, ρ, S, s, (PostO.of q).imp fun v H1 ⟨μ1, S1, d, _, le1, s1, r1, q1⟩ => q1 μ1 H1 σ .refl s1⟩
  · cases h
theorem ss_ite (G : Good X Γ γ W P) (c : E) {a b : C} (ha : SndS X γ W (run P a) (chkC a Γ)) (hb : SndS X γ W (run P b) (chkC b Γ)) : SndS X γ W (run P (.ite c a b)) (chkC (.ite c a b) Γ) := by
  refine snd_ofS fun st h => ?_
  split at h
  · obtain ⟨h1, h3⟩ := band h
    obtain ⟨h1, h2⟩ := band h1
    refine ps_imp (ps_if ((snd_all c G).t _ h1) (ha.b _ h2) (hb.b _ h3)) fun D σ H ⟨μ, ρ, S, s, q⟩ => ?_
    refine ⟨μ, ρ, S, s, (PostO.of q).imp fun v H1 ⟨μ1, S1, d, _, le1, s1, r1, q1⟩ => ?_⟩
    have e1 : d = v := r1
    subst e1
    cases d with
    | true => rw [if_pos rfl]; exact ⟨μ1, ρ, S1, s1, q1⟩
    | false => rw [if_neg Bool.false_ne_true]; exact ⟨μ1, ρ, S1, s1, q1⟩
  · cases h
/-! ### stores -/
theorem aug_ok (o : B2) : OpR X (inplaceOp (opOf o)) (opV X.K γ W (augB o)) := by
  cases o with
  | add =>
    refine opR_imp (iop_add.or iop_add_str) fun x y H Q ⟨μ, σ, ρ, S, d, e, s, rx, ry, h⟩ => ?_
    unfold augB at h
    split at h <;> first | contradiction | (exfalso; exact h) | skip
    · cases rx; cases ry; exact .inl ⟨_, _, rfl, rfl, h.here s (.int _)⟩
    · cases rx; cases ry
      split at h
      case isTrue hz => exact .inr ⟨_, _, rfl, rfl, by rw [← linesz_eq]; exact hz, h.here s (.str _)⟩
      case isFalse => exact h.elim
  | sub =>
    refine opR_imp iop_sub fun x y H Q ⟨μ, σ, ρ, S, d, e, s, rx, ry, h⟩ => ?_
    unfold augB at h
    split at h <;> first | contradiction | (exfalso; exact h) | skip
    cases rx; cases ry; exact ⟨_, _, rfl, rfl, h.here s (.int _)⟩
  | _ =>
    intro pins s σ H x y v u Q I rx ry ⟨μ, σ', ρ, S, d, e, s, r1, r2, h⟩
    exfalso
    cases d <;> cases e <;> exact h
theorem ck_name (G : Good X Γ γ W P) {i : Nat} {x : Str} (h : ckName Γ i x = true) : X.N[i]? = some x ∧ Loc X.env.scope x ∧ (X.fn x = true ∨ X.env.scope.names.lookup x = some .local) := by
  obtain ⟨h1, h2⟩ := band h
  have hN : X.N[i]? = some x := by rw [G.N]; exact of_decide_eq_true h1
  have hs : X.env.scope.names = Γ.sc.names := by rw [G.sc]
  split at h2
  · rename_i e
    exact ⟨hN, .inl (by rw [hs]; exact e), .inr (by rw [hs]; exact e)⟩
  · rename_i e
    exact ⟨hN, .inr (by rw [hs]; exact e), .inl (G.fn x h2)⟩
  · cases h2
theorem ss_aug (G : Good X Γ γ W P) (i : Nat) (o : B2) (e : E) : SndS X γ W (run P (.aug i o e)) (chkC (.aug i o e) Γ) := by
  refine snd_ofS fun st h => ?_
  split at h
  · rename_i x p op v pos
    obtain ⟨h0, h3⟩ := band h
    obtain ⟨h1, h2⟩ := band h0
    have e1 := of_decide_eq_true h2
    obtain ⟨n1, n2, n3⟩ := ck_name G h1
    subst e1
    have ho : PIp X (opOf o) (opV X.K γ W (augB o)) := fun pins s σ H x y v u Q I r1 r2 h => aug_ok o pins s σ H x y v u Q I r1 r2 h
    refine ps_imp (ps_aug G.nd n1 n2 ((snd_all e G).e _ h3) ho n3) fun D σ H ⟨μ, ρ, S, s, q⟩ => ?_
    change PostO X.K γ W μ H (match ρ[i]? with
      | some (some x) => O.of ρ (ev P e ρ S) fun d S1 => O.of ρ (augB o x d S1) fun z S2 => .nx (ρ.set i (some z)) S2
      | _ => .bad) D at q
    split at q
    case h_2 => exact q.elim
    case h_1 x0 hx =>
      obtain ⟨v, hv, rv⟩ := s.e.2 i x0 hx
      refine ⟨v, hv, μ, ρ, S, s, (PostO.of q).imp fun y H1 ⟨μ1, S1, d, _, le1, s1, r1, q1⟩ => ?_⟩
      refine ⟨μ1, σ, ρ, S1, x0, d, s1, rv.mono le1, r1, (PostO.of q1).imp fun z H2 ⟨μ2, S2, d2, _, le2, s2, r2, q2⟩ => ?_⟩
      exact q2 μ2 H2 _ .refl ⟨s2.e.set r2 i, s2.s⟩
  · cases h
theorem sw_none1 {ts : List Expr} {k : Nat} {p : Pos} {v : Expr} {env : PySem.Env} (h : isTup v = false) : swappedStores [.Tuple ts k p] v env = pure none := by
  cases v <;> first | rfl | cases h
theorem sw_none2 {ts : List Expr} {k : Nat} {p : Pos} {v : Expr} {env : PySem.Env} (h : 4 ≤ ts.length) : swappedStores [.Tuple ts k p] v env = pure none := by
  have e : (!(ts.length == 2 || ts.length == 3)) = true := by
    have h2 : (ts.length == 2) = false := by simp; omega
    have h3 : (ts.length == 3) = false := by simp; omega
    rw [h2, h3]; rfl
  cases v <;> first | rfl | skip
  rename_i vs k2 p2
  simp only [swappedStores, e, Bool.true_or, if_true]
theorem fm_lt {env : PySem.Env} {line : Nat} : ∀ {ts : List Expr}, notLoc env.scope ts = true → (ts.filterMap fun
    | .Name id pos => if env.kindOf id == some .local && pos.line == line then some id else none
    | _ => none).length < ts.length
  | [], h => by simp [notLoc] at h
  | e :: r, h => by
    have hle := List.length_filterMap_le (fun
      | Expr.Name id pos => if env.kindOf id == some .local && pos.line == line then some id else none
      | _ => none) r
    rw [List.filterMap_cons]
    split
    · simp only [List.length_cons]; omega
    · rename_i b hb
      have h2 : notLoc env.scope r = true := by
        simp only [notLoc, List.any_cons, Bool.or_eq_true] at h
        rcases h with h | h
        · exfalso
          cases e <;> first | (cases hb; done) | skip
          rename_i id pos
          simp only [Bool.not_eq_true', decide_eq_false_iff_not] at h
          by_cases hc : (env.kindOf id == some NameKind.local && pos.line == line) = true
          · rw [Bool.and_eq_true] at hc
            exact h (eq_of_beq hc.1)
          · change (if (env.kindOf id == some NameKind.local && pos.line == line) = true then some id else none) = some b at hb
            rw [if_neg hc] at hb
            cases hb
        · exact h
      have := fm_lt (env := env) (line := line) h2
      simp only [List.length_cons]
      omega
theorem sw_none3 {ts : List Expr} {k : Nat} {p : Pos} {v : Expr} {env : PySem.Env} (h : notLoc env.scope ts = true) : swappedStores [.Tuple ts k p] v env = pure none := by
  cases v <;> first | rfl | skip
  all_goals
    rename_i vs k2 p2
    have hn := fm_lt (env := env) (line := (ts.head?.map (·.pos.line)).getD 0) h
    simp only [swappedStores]
    split
    · rfl
    · split
      · rfl
      · exact if_pos (by rw [Bool.or_eq_true]; exact .inl (bne_iff_ne.mpr (Nat.ne_of_lt hn)))
theorem par_some {x y : Str} {px py p p2 : Pos} {k k2 : Nat} {a b : Expr} {env : PySem.Env} (hk : env.scope.kind = .function) (hx : env.scope.names.lookup x = some .local) (hy : env.scope.names.lookup y = some .local) (hl : (px.line == py.line) = true) (hxy : x ≠ y)
    (h1 : ([a, b].all (foldedForSure 8)) = false) (h2 : ([a, b].all (constantsAlone 8)) = false) (h3 : ([a, b].any fun | .Starred .. => true | _ => false) = false) :
    swappedStores [.Tuple [.Name x px, .Name y py] k p] (.Tuple [a, b] k2 p2) env = pure (some [x, y]) := by
  have hl2 : px.line = py.line := eq_of_beq hl
  have e2 : (Option.map (fun (z : Expr) => z.pos.line) [Expr.Name x px, Expr.Name y py].head?).getD 0 = py.line := by
    show px.line = py.line
    exact hl2
  have e3 : ([x, y] : List Str).eraseDups.length = 2 := by
    have : (y == x) = false := by simpa using Ne.symm hxy
    simp [List.eraseDups_cons, this]
  have e4 : (env.blockKind != .function) = false := by
    unfold Env.blockKind
    rw [hk]; rfl
  have e5 : (y == x) = false := by simpa using Ne.symm hxy
  unfold swappedStores
  simp only [e4, e2]
  refine (if_neg (by simp)).trans ?_
  refine (if_neg (fun z => Bool.noConfusion (z.symm.trans h3))).trans ?_
  simp only [List.filterMap_cons, List.filterMap_nil, Env.kindOf, hx, hy, hl2]
  simp only [beq_self_eq_true, Bool.and_self, if_true]
  refine (if_neg (by rw [e3]; simp)).trans ?_
  refine (if_neg (fun z => Bool.noConfusion (z.symm.trans h1))).trans ?_
  refine (if_neg (fun z => Bool.noConfusion (z.symm.trans h2))).trans ?_
  rfl
theorem par2_of {es vs : List Expr} (h : par2 Γ es vs = true) : ∃ x px y py a b, es = [.Name x px, .Name y py] ∧ vs = [a, b] ∧ Γ.sc.names.lookup x = some .local ∧ Γ.sc.names.lookup y = some .local ∧ (px.line == py.line) = true ∧ x ≠ y ∧
    ([a, b].all (foldedForSure 8)) = false ∧ ([a, b].all (constantsAlone 8)) = false ∧ ([a, b].any fun | .Starred .. => true | _ => false) = false := by
  unfold par2 at h
  split at h
  case h_2 => cases h
  case h_1 =>
    obtain ⟨h, g7⟩ := band h
    obtain ⟨h, g6⟩ := band h
    obtain ⟨h, g5⟩ := band h
    obtain ⟨h, g4⟩ := band h
    obtain ⟨h, g3⟩ := band h
    obtain ⟨g1, g2⟩ := band h
    exact ⟨_, _, _, _, _, _, rfl, rfl, of_decide_eq_true g1, of_decide_eq_true g2, g3, of_decide_eq_true g4, (Bool.not_eq_true' _).mp g5, (Bool.not_eq_true' _).mp g6, (Bool.not_eq_true' _).mp g7⟩
theorem ckGs1 {ts : E} {x : Str} {px : Pos} {es : List Expr} (h : ckGs Γ ts (.Name x px :: es) = true) : ∃ i ts', ts = .cons (.var i) ts' ∧ ckName Γ i x = true ∧ ckGs Γ ts' es = true := by
  cases ts <;> first | (simp [ckGs] at h; done) | skip
  rename_i a r
  cases a <;> first | (simp [ckGs] at h; done) | skip
  obtain ⟨h1, h2⟩ := band h
  exact ⟨_, _, rfl, h1, h2⟩
theorem ckGs0 {ts : E} (h : ckGs Γ ts [] = true) : ts = .nil := by
  cases ts <;> first | rfl | (simp [ckGs] at h; done)
theorem ckGs2 {ts : E} {x y : Str} {px py : Pos} (h : ckGs Γ ts [.Name x px, .Name y py] = true) : ∃ i j, ts = .cons (.var i) (.cons (.var j) .nil) ∧ ckName Γ i x = true ∧ ckName Γ j y = true := by
  obtain ⟨i, t1, rfl, h1, h2⟩ := ckGs1 h
  obtain ⟨j, t2, rfl, h3, h4⟩ := ckGs1 h2
  rw [ckGs0 h4]
  exact ⟨i, j, rfl, h1, h3⟩
theorem ss_asg (G : Good X Γ γ W P) (tg e : E) : SndS X γ W (run P (.asg tg e)) (chkC (.asg tg e) Γ) := by
  refine snd_ofS fun st h => ?_
  unfold asgC at h
  split at h
  case h_2 => cases h
  case h_1 t v pos =>
    split at h
    · -- name = value
      rename_i i x p
      obtain ⟨h1, h3⟩ := band h
      obtain ⟨h1, h2⟩ := band h1
      obtain ⟨n1, n2, n3⟩ := ck_name G h1
      rw [Bool.or_eq_true] at h3
      rcases h3 with h3 | h3
      · refine ps_imp (ps_set G.nd n1 n2 ((snd_all e G).e _ h2) (sw_plain h3 _ _ _) n3) fun D σ H ⟨μ, ρ, S, s, q⟩ => ?_
        refine ⟨μ, ρ, S, s, (PostO.of q).imp fun v H1 ⟨μ1, S1, d, _, le1, s1, r1, q1⟩ => ?_⟩
        exact q1 μ1 H1 _ .refl ⟨s1.e.set r1 i, s1.s⟩
      · obtain ⟨h4, h5⟩ := band h3
        cases e <;> first | (cases h4; done) | skip
        rename_i own tg src cond elt
        obtain ⟨el, t, it, ifs, scope, pos2, wi, g, tt, te, rfl, h1, L⟩ := lc_parts G own (snd_all src G) (snd_all cond) (snd_all elt) h2
        unfold lcSame at h5
        obtain ⟨h5, h9⟩ := band h5
        obtain ⟨h5, h8⟩ := band h5
        obtain ⟨h6, h7⟩ := band h5
        have hk : X.env.scope.kind = .function := by
          rw [G.sc]
          split at h6
          · assumption
          · cases h6
        have hloc : X.env.scope.names.lookup x = some .local := by rw [G.sc]; exact of_decide_eq_true h7
        refine ps_imp (ps_setLc (G.calm h1) G.nd n1 hloc (sw_true hk hloc h8 (by simpa using h9)) L.hi L.ok L.hg L.ht L.he L.hs) fun D σ H ⟨μ, ρ, S, s, q⟩ => ?_
        refine L.imp σ H _ ⟨μ, ρ, S, s, (PostO.of q).imp fun v H1 ⟨μ1, S1, d, _, le1, s1, r1, q1⟩ => ?_⟩
        exact q1 μ1 H1 _ .refl ⟨s1.e.set r1 i, s1.s⟩
    · -- a, b = value
      rename_i ts es kk p
      obtain ⟨h1, h4⟩ := band h
      obtain ⟨h1, h3⟩ := band h1
      obtain ⟨h1, h2⟩ := band h1
      have plain : swappedStores [.Tuple es kk p] v X.env = pure none → PS X (.Assign [.Tuple es kk p] v pos) (sR X.K γ W (run P (.asg (.tup ts) e))) := fun hw => by
        refine ps_imp (ps_asg ((snd_all e G).e _ h2) (pg_all G (.tup ts) _ h1) (show swapsWithSole [Expr.Tuple es kk p] v pos.line X.env = pure false from sw_plain h3 (some (Expr.Tuple es kk p)) pos.line X.env) hw) fun D σ H ⟨μ, ρ, S, s, q⟩ => ?_
        refine ⟨μ, ρ, S, s, (PostO.of q).imp fun v H1 ⟨μ1, S1, d, _, le1, s1, r1, q1⟩ => ?_⟩
        unfold asgO at q1
        split at q1
        case h_2 => exact q1.elim
        case h_1 ρ' ea => exact ⟨μ1, ρ, S1, d, ρ', s1, r1, ea, fun σ' s2 _ => q1 μ1 H1 σ' .refl s2⟩
      rw [Bool.or_eq_true, Bool.or_eq_true] at h4
      rcases h4 with (h4 | h4) | h4
      · exact plain (sw_none1 (by simpa using h4))
      · rw [Bool.or_eq_true] at h4
        rcases h4 with h4 | h4
        · exact plain (sw_none2 (of_decide_eq_true h4))
        · exact plain (sw_none3 (by rw [G.sc]; exact h4))
      · split at h4
        case h_2 => cases h4
        case h_1 =>
          rename_i as vs k2 p2 _
          obtain ⟨h4, h8⟩ := band h4
          obtain ⟨h4, h7⟩ := band h4
          obtain ⟨h5, h6⟩ := band h4
          have hk : X.env.scope.kind = .function := by
            rw [G.sc]
            split at h6
            · assumption
            · cases h6
          obtain ⟨x, px, y, py, a, b, rfl, rfl, g1, g2, g3, g4, g5, g6, g7⟩ := par2_of h7
          have hx : X.env.scope.names.lookup x = some .local := by rw [G.sc]; exact g1
          have hy : X.env.scope.names.lookup y = some .local := by rw [G.sc]; exact g2
          have hw := par_some (p := p) (p2 := p2) (k := kk) (k2 := k2) hk hx hy g3 g4 g5 g6 g7
          have h0 : ckG Γ (.tup ts) (.Tuple [.Name x px, .Name y py] kk p) = true := by assumption
          obtain ⟨i, j, rfl, c1, c2⟩ := ckGs2 (show ckGs Γ ts [.Name x px, .Name y py] = true from (band h0).2)
          obtain ⟨n1, _, _⟩ := ck_name G c1
          obtain ⟨m1, _, _⟩ := ck_name G c2
          have hij : i ≠ j := fun e => by
            subst e
            rw [n1] at m1
            exact g4 (Option.some.inj m1)
          have hsw : swapsWithSole [.Tuple [.Name x px, .Name y py] kk p] (.Tuple [a, b] k2 p2) pos.line X.env = pure false := rfl
          refine ps_imp (ps_par (G.calm h5) G.nd n1 m1 hij hx hy ((snd_all as G).a _ h8) hw hsw) fun D σ H ⟨μ, ρ, S, s, q⟩ => ?_
          change PostO X.K γ W μ H (O.of ρ (((den P as).a ρ S).bind tupR) fun d S1 => asgO _ d ρ S1) D at q
          refine ⟨μ, ρ, S, s, ?_⟩
          cases ee : (den P as).a ρ S with
          | bad => rw [ee] at q; exact q
          | exc c fs S1 => rw [ee] at q; exact fun μ' H' d l s x => q μ' H' σ d l s x
          | ok ds S1 =>
            rw [ee] at q
            change PostO X.K γ W μ H (O.of ρ (tupR ds S1) fun d S1 => asgO _ d ρ S1) D at q
            have hl := evs_len as _ h8 ee
            intro μ1 H1 vs le s1 r
            unfold tupR at q
            split at q
            case isFalse => exact q.elim
            case isTrue =>
              match ds, hl, r, q with
              | [d1, d2], _, r, q =>
                obtain ⟨v1, v2, rfl, r1, r2⟩ := vs2 r
                exact ⟨v1, v2, rfl, q μ1 H1 _ le ⟨(s1.e.set r1 i).set r2 j, s1.s⟩⟩
    · cases h
/-! ### loops -/
theorem PostO.cond {b : Bool} {o : O} {D : Ends} (h : PostO K γ W μ H (bif b then o else .bad) D) : b = true ∧ PostO K γ W μ H o D := by
  cases b with
  | true => exact ⟨rfl, h⟩
  | false => exact h.elim
theorem ss_whl (G : GoodS X Γ γ W P) (n : Nat) (c : E) {b : C} (hb : SndS X γ W (run P b) (chkC b Γ)) : SndS X γ W (run P (.whl n c b)) (chkC (.whl n c b) Γ) := by
  refine snd_ofS fun st h => ?_
  split at h
  case h_2 => cases h
  case h_1 t y pos =>
    obtain ⟨h1, h2⟩ := band h
    refine ps_imp (ps_while G.own ((snd_all c G.toGood).t _ h1) (hb.b _ h2)) fun D σ H ⟨μ, ρ, S, s, q⟩ => ?_
    refine ⟨fun m σ' H' => ∃ μ' ρ' S', Sim X.K μ' σ' H' ρ' S' ∧ PostO X.K γ W μ' H' (whlL (tst P c) (run P b) m ρ' S') D, ⟨n, μ, ρ, S, s, q⟩, ?_⟩
    rintro m σ' H' ⟨μ', ρ', S', s', q'⟩
    cases m with
    | zero => exact q'.elim
    | succ m =>
      refine ⟨μ', ρ', S', s', (PostO.of q').imp fun v H1 ⟨μ1, S1, d, _, le1, s1, r1, q1⟩ => ?_⟩
      have e1 : d = v := r1
      subst e1
      cases d with
      | false =>
        rw [if_neg Bool.false_ne_true]
        exact q1 μ1 H1 σ' .refl s1
      | true =>
        rw [if_pos rfl]
        refine ⟨fun σ2 H2 => ∃ μ' ρ' S', Sim X.K μ' σ2 H2 ρ' S' ∧ PostO X.K γ W μ' H2 (whlL (tst P c) (run P b) m ρ' S') D, fun σ2 H2 z => ⟨m, Nat.lt_succ_self m, z⟩, μ1, ρ', S1, s1, ?_⟩
        change PostO X.K γ W μ1 H1 (match run P b ρ' S1 with
          | .nx ρ' S' => whlL (tst P c) (run P b) m ρ' S'
          | .ct ρ' S' => whlL (tst P c) (run P b) m ρ' S'
          | .bk ρ' S' => .nx ρ' S'
          | o => o) D at q1
        cases e : run P b ρ' S1 with
        | nx ρ2 S2 => rw [e] at q1; exact fun μ2 H2 σ2 l s2 => ⟨μ2, ρ2, S2, s2, q1.base l⟩
        | ct ρ2 S2 => rw [e] at q1; exact fun μ2 H2 σ2 l s2 => ⟨μ2, ρ2, S2, s2, q1.base l⟩
        | bk ρ2 S2 => rw [e] at q1; exact q1
        | ret => rw [e] at q1; exact q1
        | exc => rw [e] at q1; exact q1
        | bad => rw [e] at q1; exact q1
theorem ss_for (G : GoodS X Γ γ W P) (tg it : E) {b : C} (hb : SndS X γ W (run P b) (chkC b Γ)) : SndS X γ W (run P (.for tg it b)) (chkC (.for tg it b) Γ) := by
  refine snd_ofS fun st h => ?_
  split at h
  case h_2 => cases h
  case h_1 t i y pos =>
    obtain ⟨h4, h5⟩ := band h
    obtain ⟨g1, h4⟩ := band h4
    obtain ⟨g1, h3⟩ := band g1
    obtain ⟨h1, h2⟩ := band g1
    clear g1 h
    have hset : ∀ x, foldedSetIterable i X.env x = pure x := fun x => by
      cases i <;> first | rfl | simp [isSet] at h4
    refine ps_imp (ps_for G.own (G.calm h1) ((snd_all it G.toGood).i i t h3) (pg_all G.toGood tg t h2) (hb.b _ h5) hset) fun D σ H ⟨μ, ρ, S, s, q⟩ => ?_
    refine ⟨μ, ρ, S, s, (PostO.of q).imp fun J H1 ⟨μ1, S1, w, _, le1, s1, hw, q1⟩ => ?_⟩
    refine ⟨fun k m σ' H' => m = w.ds.length - k ∧ ∃ μ' ρ' S', Le X.K μ1 H1 μ' H' ∧ Sim X.K μ' σ' H' ρ' S' ∧ PostO X.K γ W μ' H' (forL (ckS w.lk) (fun x ρ S => (asgO tg x ρ S).seq (run P b)) (w.ds.drop k) ρ' S') D,
      ⟨_, rfl, μ1, ρ, S1, .refl, s1, by rw [List.drop_zero]; exact q1⟩, ?_⟩
    rintro k m σ' H' ⟨rfl, μ', ρ', S', le', s', q'⟩
    cases hd : w.ds[k]? with
    | none =>
      rw [List.drop_eq_nil_iff.mpr (List.getElem?_eq_none_iff.mp hd)] at q'
      obtain ⟨hck, q2⟩ := PostO.cond q'
      obtain ⟨h10, _⟩ := hw μ' σ' H' ρ' S' k le' s' hck
      exact .inl ⟨h10 hd, q2 μ' H' σ' .refl s'⟩
    | some d =>
      rw [drop_at hd] at q'
      obtain ⟨hck, q2⟩ := PostO.cond q'
      obtain ⟨_, h11⟩ := hw μ' σ' H' ρ' S' k le' s' hck
      obtain ⟨hgo, hy⟩ := h11 d hd
      have hlt : w.ds.length - (k + 1) < w.ds.length - k := by
        have := (List.getElem?_eq_some_iff.mp hd).1
        omega
      refine .inr ⟨hgo, fun σ2 H2 => ∃ μ' ρ' S', Le X.K μ1 H1 μ' H2 ∧ Sim X.K μ' σ2 H2 ρ' S' ∧ PostO X.K γ W μ' H2 (forL (ckS w.lk) (fun x ρ S => (asgO tg x ρ S).seq (run P b)) (w.ds.drop (k + 1)) ρ' S') D,
        fun σ2 H2 z => ⟨_, hlt, rfl, z⟩, fun x H2 hx => ?_⟩
      obtain ⟨μ2, le3, s3, rx⟩ := hy x H2 hx
      change PostO X.K γ W μ' H' (match (asgO tg d ρ' S').seq (run P b) with
          | .nx ρ' S' => forL (ckS w.lk) (fun x ρ S => (asgO tg x ρ S).seq (run P b)) (w.ds.drop (k + 1)) ρ' S'
          | .ct ρ' S' => forL (ckS w.lk) (fun x ρ S => (asgO tg x ρ S).seq (run P b)) (w.ds.drop (k + 1)) ρ' S'
          | .bk ρ' S' => .nx ρ' S'
          | o => o) D at q2
      cases ea : asgT tg d ρ' with
      | none => rw [show asgO tg d ρ' S' = .bad from by unfold asgO; rw [ea]] at q2; exact q2.elim
      | some ρ2 =>
        rw [show asgO tg d ρ' S' = .nx ρ2 S' from by unfold asgO; rw [ea]] at q2
        change PostO X.K γ W μ' H' (match run P b ρ2 S' with
          | .nx ρ' S' => forL (ckS w.lk) (fun x ρ S => (asgO tg x ρ S).seq (run P b)) (w.ds.drop (k + 1)) ρ' S'
          | .ct ρ' S' => forL (ckS w.lk) (fun x ρ S => (asgO tg x ρ S).seq (run P b)) (w.ds.drop (k + 1)) ρ' S'
          | .bk ρ' S' => .nx ρ' S'
          | o => o) D at q2
        refine ⟨μ2, ρ', S', d, ρ2, s3, rx, ea, fun σ2 s4 _ => ⟨μ2, ρ2, S', s4, ?_⟩⟩
        have q3 := PostO.base le3 q2
        cases e : run P b ρ2 S' with
        | nx ρ3 S3 => rw [e] at q3; exact fun μ3 H3 σ3 l s5 => ⟨μ3, ρ3, S3, (le'.trans le3).trans l, s5, q3.base l⟩
        | ct ρ3 S3 => rw [e] at q3; exact fun μ3 H3 σ3 l s5 => ⟨μ3, ρ3, S3, (le'.trans le3).trans l, s5, q3.base l⟩
        | bk ρ3 S3 => rw [e] at q3; exact q3
        | ret => rw [e] at q3; exact q3
        | exc => rw [e] at q3; exact q3
        | bad => rw [e] at q3; exact q3
theorem ss_raise (c : Nat) : SndS X γ W (run P (.raise c)) (chkC (.raise c) Γ) := snd_ofS fun _ h => nomatch h
/-- EVERY STATEMENT -/
theorem ss_all (G : GoodS X Γ γ W P) : ∀ c : C, SndS X γ W (run P c) (chkC c Γ)
  | .skip => ss_skip
  | .seq a b => ss_seq (ss_all G a) (ss_all G b)
  | .ex e => ss_ex G.toGood e
  | .asg tg e => ss_asg G.toGood tg e
  | .aug i o e => ss_aug G.toGood i o e
  | .ret e => ss_ret G.toGood e
  | .retN => ss_retN
  | .ite c a b => ss_ite G.toGood c (ss_all G a) (ss_all G b)
  | .whl n c b => ss_whl G n c (ss_all G b)
  | .for tg it b => ss_for G tg it (ss_all G b)
  | .brk => ss_brk
  | .cnt => ss_cnt
  | .pass => ss_pass
  | .raise c => ss_raise c
end
end Ng

set_option Elab.async false
set_option linter.all false
set_option maxRecDepth 100000
set_option maxHeartbeats 4000000
/-! Defs keep the engine's promise; the end of a law. -/
namespace Ng
open PySem PySem.Spec PyProof.Rows L2
section
variable {K : PySem.W.Frag} {μ μ1 t : Mu} {H H1 : Hp} {S S1 : Store}
/-! ### what a def made and nobody names is forgotten -/
mutual
theorem RepV.lt : ∀ {d : D} {v : V}, RepV K H μ d v → ∀ n ∈ d.refs, n < μ.length
  | _, _, .non, n, h => by simp [D.refs] at h
  | _, _, .bl _, n, h => by simp [D.refs] at h
  | _, _, .int _, n, h => by simp [D.refs] at h
  | _, _, .str _, n, h => by simp [D.refs] at h
  | _, _, .tup _ r, n, h => RepVs.lt r n (by simpa [D.refs] using h)
  | _, _, .ref hm, n, h => by
    simp only [D.refs, List.mem_singleton] at h
    subst h
    exact (List.getElem?_eq_some_iff.mp hm).1
theorem RepVs.lt : ∀ {ds : List D} {vs : List V}, RepVs K H μ ds vs → ∀ n ∈ D.refsL ds, n < μ.length
  | _, _, .nil, n, h => by simp [D.refsL] at h
  | _, _, .cons r rs, n, h => by
    simp only [D.refsL, List.mem_append] at h
    rcases h with h | h
    · exact RepV.lt r n h
    · exact RepVs.lt rs n h
end
mutual
/-- the cells renamed -/
theorem RepV.ren {f : Nat → Nat} : ∀ {d : D} {v : V}, RepV K H μ d v → (∀ n ∈ d.refs, ∀ a, μ[n]? = some a → μ1[f n]? = some a) → RepV K H μ1 (d.ren f) v
  | _, _, .non, _ => .non
  | _, _, .bl b, _ => .bl b
  | _, _, .int i, _ => .int i
  | _, _, .str x, _ => .str x
  | _, _, .tup h r, q => by
    simp only [D.ren]
    exact .tup h (RepVs.ren r fun n hn => q n (by simpa [D.refs] using hn))
  | _, _, .ref hm, q => by
    simp only [D.ren]
    exact .ref (q _ (by simp [D.refs]) _ hm)
theorem RepVs.ren {f : Nat → Nat} : ∀ {ds : List D} {vs : List V}, RepVs K H μ ds vs → (∀ n ∈ D.refsL ds, ∀ a, μ[n]? = some a → μ1[f n]? = some a) → RepVs K H μ1 (D.renL f ds) vs
  | _, _, .nil, _ => .nil
  | _, _, .cons r rs, q => by
    simp only [D.renL]
    exact .cons (RepV.ren r fun n hn => q n (by simp [D.refsL, hn])) (RepVs.ren rs fun n hn => q n (by simp [D.refsL, hn]))
end
mutual
theorem D.ren_id {f : Nat → Nat} : ∀ d : D, (∀ n ∈ d.refs, f n = n) → d.ren f = d
  | .non, _ => rfl
  | .bl _, _ => rfl
  | .int _, _ => rfl
  | .str _, _ => rfl
  | .tup ds, h => by
    simp only [D.ren]
    rw [D.renL_id ds fun n hn => h n (by simpa [D.refs] using hn)]
  | .ref n, h => by simp only [D.ren]; rw [h n (by simp [D.refs])]
  | .exc _, _ => rfl
theorem D.renL_id {f : Nat → Nat} : ∀ ds : List D, (∀ n ∈ D.refsL ds, f n = n) → D.renL f ds = ds
  | [], _ => rfl
  | d :: ds, h => by
    simp only [D.renL]
    rw [D.ren_id d fun n hn => h n (by simp [D.refsL, hn]), D.renL_id ds fun n hn => h n (by simp [D.refsL, hn])]
end
theorem RepC.ren {f : Nat → Nat} {c : Cell} {a : Addr} (r : RepC K H μ c a) (q : ∀ n ∈ c.refs, ∀ a, μ[n]? = some a → μ1[f n]? = some a) : RepC K H μ1 (c.ren f) a := by
  cases c with
  | lst ds => obtain ⟨vs, h, r⟩ := r; exact ⟨vs, h, r.ren q⟩
  | ro ds => obtain ⟨vs, h, r⟩ := r; exact ⟨vs, h, r.ren q⟩
  | dct _ => exact r.elim
  | ins _ _ => exact r.elim
theorem RepC.lt {c : Cell} {a : Addr} (r : RepC K H μ c a) : ∀ n ∈ c.refs, n < μ.length := by
  cases c with
  | lst ds => obtain ⟨vs, h, r⟩ := r; exact r.lt
  | ro ds => obtain ⟨vs, h, r⟩ := r; exact r.lt
  | dct _ => exact r.elim
  | ins _ _ => exact r.elim
theorem Cell.ren_id {f : Nat → Nat} {c : Cell} (h : ∀ n ∈ c.refs, f n = n) : c.ren f = c := by
  cases c with
  | lst ds => simp only [Cell.ren]; rw [D.renL_id ds h]
  | ro ds => simp only [Cell.ren]; rw [D.renL_id ds h]
  | dct kvs =>
    simp only [Cell.ren]
    congr 1
    have : ∀ kvs : List (D × D), (∀ n ∈ D.refsL (kvs.map (·.2)), f n = n) → kvs.map (fun kv => (kv.1, D.ren f kv.2)) = kvs := by
      intro kvs
      induction kvs with
      | nil => intro _; rfl
      | cons kv r ih =>
        intro h
        simp only [List.map_cons, D.refsL, List.mem_append] at h ⊢
        rw [ih fun n hn => h n (.inr hn), D.ren_id _ fun n hn => h n (.inl hn)]
    exact this kvs h
  | ins c fs =>
    simp only [Cell.ren]
    congr 1
    have : ∀ kvs : List (Str × D), (∀ n ∈ D.refsL (kvs.map (·.2)), f n = n) → kvs.map (fun kv => (kv.1, D.ren f kv.2)) = kvs := by
      intro kvs
      induction kvs with
      | nil => intro _; rfl
      | cons kv r ih =>
        intro h
        simp only [List.map_cons, D.refsL, List.mem_append] at h ⊢
        rw [ih fun n hn => h n (.inr hn), D.ren_id _ fun n hn => h n (.inl hn)]
    exact this fs h
theorem Cell.ren_ro {f : Nat → Nat} {c : Cell} : (c.ren f).isRo = c.isRo := by cases c <;> rfl
/-- the cells L behind the first ones -/
theorem keep_cells {L : List Nat} (r0 : RepS K H μ S) (le : Le K μ H μ1 H1) (r1 : RepS K H1 μ1 S1) (hS : S1.take S.length = S) (hL1 : ∀ n ∈ L, S.length ≤ n ∧ n < S1.length) (hnd : L.Nodup)
    (hL2 : ∀ n ∈ L, ∀ c, S1[n]? = some c → ∀ m ∈ c.refs, m < S.length ∨ m ∈ L) :
    ∃ μ2, (∃ t, μ2 = μ ++ t) ∧ (∀ m, (m < S.length ∨ m ∈ L) → ∀ a, μ1[m]? = some a → μ2[renOf S.length L m]? = some a) ∧
      RepS K H1 μ2 (S ++ L.filterMap fun n => (S1[n]?).map (Cell.ren (renOf S.length L))) := by
  obtain ⟨t, rfl⟩ := le.pre
  have hlen := r0.len
  have hμ1 := r1.len
  have hn0 : S.length ≤ S1.length := by
    have := congrArg List.length hS
    rw [List.length_take] at this
    omega
  have get0 : ∀ n, n < S.length → S1[n]? = S[n]? := fun n hn => by
    have := congrArg (fun l => l[n]?) hS
    simpa [List.getElem?_take_of_lt hn] using this
  -- the cells of L
  have hf : ∀ L' : List Nat, (∀ n ∈ L', n < S1.length) → (L'.filterMap fun n => (S1[n]?).map (Cell.ren (renOf S.length L))).length = L'.length ∧
      ∀ (j : Nat) n, L'[j]? = some n → (L'.filterMap fun n => (S1[n]?).map (Cell.ren (renOf S.length L)))[j]? = (S1[n]?).map (Cell.ren (renOf S.length L)) := by
    intro L'
    induction L' with
    | nil => intro _; exact ⟨rfl, fun j n h => by simp at h⟩
    | cons m L' ih =>
      intro h
      obtain ⟨h1, h2⟩ := ih fun n hn => h n (List.mem_cons_of_mem _ hn)
      have hm := h m List.mem_cons_self
      rw [List.filterMap_cons, List.getElem?_eq_getElem hm]
      refine ⟨by simp [h1], fun j n hj => ?_⟩
      cases j with
      | zero =>
        simp at hj
        subst hj
        rw [List.getElem?_eq_getElem hm]
        rfl
      | succ j => simpa using h2 j n (by simpa using hj)
  obtain ⟨f1, f2⟩ := hf L fun n hn => (hL1 n hn).2
  have hg : ∀ L' : List Nat, (∀ n ∈ L', n < (μ ++ t).length) → (L'.filterMap fun n => (μ ++ t)[n]?).length = L'.length ∧
      ∀ (j : Nat) n, L'[j]? = some n → (L'.filterMap fun n => (μ ++ t)[n]?)[j]? = (μ ++ t)[n]? := by
    intro L'
    induction L' with
    | nil => intro _; exact ⟨rfl, fun j n h => by simp at h⟩
    | cons m L' ih =>
      intro h
      obtain ⟨h1, h2⟩ := ih fun n hn => h n (List.mem_cons_of_mem _ hn)
      have hm := h m List.mem_cons_self
      rw [List.filterMap_cons, List.getElem?_eq_getElem hm]
      refine ⟨by simp [h1], fun j n hj => ?_⟩
      cases j with
      | zero =>
        simp at hj
        subst hj
        rw [List.getElem?_eq_getElem hm]
        rfl
      | succ j => simpa using h2 j n (by simpa using hj)
  obtain ⟨g1, g2⟩ := hg L fun n hn => by rw [hμ1]; exact (hL1 n hn).2
  have at2 : ∀ m, (m < S.length ∨ m ∈ L) → ∀ a, (μ ++ t)[m]? = some a → (μ ++ L.filterMap fun n => (μ ++ t)[n]?)[renOf S.length L m]? = some a := by
    intro m hm a ha
    unfold renOf
    by_cases h : m < S.length
    · rw [if_pos h, List.getElem?_append_left (by omega)]
      rwa [List.getElem?_append_left (by omega)] at ha
    · rw [if_neg h]
      have hmL : m ∈ L := hm.resolve_left h
      have hj : L.findIdx (· == m) < L.length := List.findIdx_lt_length_of_exists ⟨m, hmL, by simp⟩
      have e1 : L[L.findIdx (· == m)]? = some m := by
        rw [List.getElem?_eq_getElem hj]
        have := List.findIdx_getElem (w := hj)
        simp at this
        rw [this]
      rw [List.getElem?_append_right (by omega), show S.length + L.findIdx (· == m) - μ.length = L.findIdx (· == m) by omega, g2 _ m e1]
      exact ha
  -- where an index comes from
  have back : ∀ (n : Nat) a, (μ ++ L.filterMap fun n => (μ ++ t)[n]?)[n]? = some a → ∃ m, (m = n ∧ n < S.length ∨ S.length ≤ n ∧ L[n - S.length]? = some m) ∧ (μ ++ t)[m]? = some a ∧
      (S ++ L.filterMap fun n => (S1[n]?).map (Cell.ren (renOf S.length L)))[n]? = (S1[m]?).map (Cell.ren (renOf S.length L)) := by
    intro n a ha
    by_cases h : n < S.length
    · refine ⟨n, .inl ⟨rfl, h⟩, ?_, ?_⟩
      · rw [List.getElem?_append_left (by omega)] at ha ⊢
        exact ha
      · rw [List.getElem?_append_left h, get0 n h]
        cases e : S[n]? with
        | none => rfl
        | some c =>
          obtain ⟨b, hb, rc⟩ := r0.at e
          show some c = some (c.ren _)
          rw [Cell.ren_id fun m hm => ?_]
          unfold renOf
          rw [if_pos (by rw [← hlen]; exact rc.lt m hm)]
    · rw [List.getElem?_append_right (by omega)] at ha
      have hn : n - μ.length < L.length := by
        rw [← g1]
        exact (List.getElem?_eq_some_iff.mp ha).1
      obtain ⟨m, hm⟩ : ∃ m, L[n - μ.length]? = some m := ⟨_, List.getElem?_eq_getElem hn⟩
      rw [g2 _ m hm] at ha
      refine ⟨m, .inr ⟨by omega, by rw [← hlen]; exact hm⟩, ha, ?_⟩
      rw [List.getElem?_append_right (by omega), show n - S.length = n - μ.length by omega, f2 _ m hm]
  refine ⟨μ ++ L.filterMap fun n => (μ ++ t)[n]?, ⟨_, rfl⟩, at2, ⟨by simp [f1, g1, hlen], fun n c a h1 h2 => ?_, fun m n a c e hmn h1 h2 h3 h4 => ?_⟩⟩
  · obtain ⟨m, hm, h3, h4⟩ := back n a h2
    rw [h4] at h1
    cases e : S1[m]? with
    | none => rw [e] at h1; cases h1
    | some c0 =>
      rw [e] at h1
      cases h1
      have rc := r1.cell m c0 a e h3
      refine rc.ren fun k hk b hb => at2 k ?_ b hb
      rcases hm with ⟨rfl, hlt⟩ | ⟨_, hmL⟩
      · left
        rw [get0 m hlt] at e
        obtain ⟨_, _, rc0⟩ := r0.at e
        rw [← hlen]
        exact rc0.lt k hk
      · exact hL2 m (List.mem_of_getElem? hmL) c0 e k hk
  · obtain ⟨m', hm', h5, h6⟩ := back m a h1
    obtain ⟨n', hn', h7, h8⟩ := back n a h2
    rw [h6] at h3
    rw [h8] at h4
    cases e1 : S1[m']? with
    | none => rw [e1] at h3; cases h3
    | some c0 =>
      cases e2 : S1[n']? with
      | none => rw [e2] at h4; cases h4
      | some e0 =>
        rw [e1] at h3
        rw [e2] at h4
        cases h3; cases h4
        rw [Cell.ren_ro, Cell.ren_ro]
        refine r1.apart m' n' a c0 e0 (fun z => ?_) h5 h7 e1 e2
        subst z
        rcases hm' with ⟨rfl, hlt⟩ | ⟨hge, hmL⟩
        · rcases hn' with ⟨rfl, _⟩ | ⟨hge2, hnL⟩
          · exact hmn rfl
          · have := (hL1 _ (List.mem_of_getElem? hnL)).1
            omega
        · rcases hn' with ⟨rfl, hlt⟩ | ⟨hge2, hnL⟩
          · have := (hL1 _ (List.mem_of_getElem? hmL)).1
            omega
          · have i1 := (List.getElem?_eq_some_iff.mp hmL).1
            have := (List.getElem?_inj i1 hnd).mp (hmL.trans hnL.symm)
            omega
/-- nothing of the def's own is kept -/
theorem keep_none (r0 : RepS K H μ S) (le : Le K μ H μ1 H1) (r1 : RepS K H1 μ1 S1) (hS : S1.take S.length = S) : RepS K H1 μ S ∧ Le K μ H μ H1 := by
  obtain ⟨μ2, ⟨t, e⟩, _, r⟩ := keep_cells (L := []) r0 le r1 hS (fun _ h => by cases h) List.nodup_nil (fun _ h => by cases h)
  have hl := r.len
  rw [List.filterMap_nil, List.append_nil] at r hl
  have : t = [] := by
    rw [e, List.length_append, r0.len] at hl
    exact List.eq_nil_of_length_eq_zero (by omega)
  subst this
  rw [List.append_nil] at e
  subst e
  exact ⟨r, ⟨⟨[], by simp⟩, le.tup⟩⟩
theorem RepV.pure {d : D} {v : V} (r : RepV K H μ d v) (h : d.refs = []) : RepV K H μ1 d v := by
  have q := RepV.ren (f := id) (μ1 := μ1) r fun n hn => by rw [h] at hn; cases hn
  rwa [D.ren_id (f := id) d fun n hn => rfl] at q
theorem fin_ok {d : D} {v : V} (r0 : RepS K H μ S) (le : Le K μ H μ1 H1) (r1 : RepS K H1 μ1 S1) (rv : RepV K H1 μ1 d v) : ∃ d2 S2 μ2, fin S d S1 = .ok d2 S2 ∧ Le K μ H μ2 H1 ∧ RepS K H1 μ2 S2 ∧ RepV K H1 μ2 d2 v := by
  unfold fin
  by_cases hS : S1.take S.length = S
  · rw [if_pos hS]
    cases hr : d.refs with
    | nil =>
      obtain ⟨r2, le2⟩ := keep_none r0 le r1 hS
      exact ⟨d, S, μ, rfl, le2, r2, rv.pure hr⟩
    | cons n rs =>
      simp only
      generalize hL : reach S1 S.length 100000 (n :: rs) [] = L
      split
      case isTrue hc =>
        obtain ⟨hc, c5⟩ := Bool.and_eq_true_iff.mp hc
        obtain ⟨hc, c4⟩ := Bool.and_eq_true_iff.mp hc
        obtain ⟨hc, c3⟩ := Bool.and_eq_true_iff.mp hc
        obtain ⟨c1, c2⟩ := Bool.and_eq_true_iff.mp hc
        have e2 : ∀ m ∈ d.refs, m < S.length ∨ m ∈ L := fun m hm => by
          rw [hr] at hm
          have := List.all_eq_true.mp c2 m hm
          simpa using this
        have e1 : ∀ k ∈ L, ∀ c, S1[k]? = some c → ∀ m ∈ c.refs, m < S.length ∨ m ∈ L := fun k hk c hc m hm => by
          have := List.all_eq_true.mp c1 m (List.mem_flatMap.mpr ⟨k, hk, by rw [hc]; exact hm⟩)
          simpa using this
        obtain ⟨μ2, ⟨t, e⟩, at2, r⟩ := keep_cells (L := L) r0 le r1 hS (fun k hk => ⟨by simpa using List.all_eq_true.mp c4 k hk, by simpa using List.all_eq_true.mp c5 k hk⟩) (of_decide_eq_true c3) e1
        exact ⟨_, _, μ2, rfl, ⟨⟨t, e⟩, le.tup⟩, r, rv.ren fun m hm => at2 m (e2 m hm)⟩
      case isFalse => exact ⟨d, S1, μ1, rfl, le, r1, rv⟩
  · rw [if_neg hS]
    exact ⟨d, S1, μ1, rfl, le, r1, rv⟩
/-! ### defs -/
/-- a def of the text: its name, its statement, its names by slot, its parameters, its body in the engine -/
structure FText where
  x : Str
  st : Stmt
  N : List Str
  ps : List Str
  fn : Fn
def scopeC (N P : List Str) (sc : Scope) : Bool :=
  (match sc.kind with | .function => true | _ => false) && !sc.isCoroutine && !sc.isGenerator && decide N.Nodup && decide (N.take P.length = P) &&
    (P.all fun x => decide (sc.names.lookup x = some .local) || decide (sc.names.lookup x = some .cell)) && (sc.names.all fun y => decide (y.2 ≠ .free))
theorem scope_of {N P : List Str} {sc : Scope} (h : scopeC N P sc = true) : FnScope N P sc := by
  obtain ⟨h, h7⟩ := Bool.and_eq_true_iff.mp h
  obtain ⟨h, h6⟩ := Bool.and_eq_true_iff.mp h
  obtain ⟨h, h5⟩ := Bool.and_eq_true_iff.mp h
  obtain ⟨h, h4⟩ := Bool.and_eq_true_iff.mp h
  obtain ⟨h, h3⟩ := Bool.and_eq_true_iff.mp h
  obtain ⟨h1, h2⟩ := Bool.and_eq_true_iff.mp h
  refine ⟨?_, by simpa using h2, by simpa using h3, of_decide_eq_true h4, of_decide_eq_true h5, fun x hx => ?_, fun y hy => ?_⟩
  · split at h1
    · assumption
    · cases h1
  · simpa using List.all_eq_true.mp h6 x hx
  · simpa using List.all_eq_true.mp h7 y hy
def gamOf (fs : List Str) (glb : List (Str × D)) (blt : List Str) (t : FText) : Gam := ⟨t.N, defScope t.st, fun _ => true, true, fs, glb, blt⟩
def textC (fs : List Str) (glb : List (Str × D)) (blt : List Str) (t : FText) : Bool :=
  scopeC t.N t.ps (defScope t.st) && decide (t.fn.np = t.ps.length) && decide (t.fn.nl = t.N.length) && (chkC t.fn.body (gamOf fs glb blt t)).b (defBody t.st)
/-- what stands behind the top -/
structure Facts (K : PySem.W.Frag) (mg : Str → Option Value) (Ts : List FText) (glb : List (Str × D)) (blt : List Str) : Prop where
  fns : ∀ t ∈ Ts, ∃ addr fd, Fun K t.x t.x t.st addr fd ∧ mg t.x = some (.ref addr) ∧ PySem.W.keepIn K (.ref addr) = true ∧ Binds K fd t.ps []
  glb : ∀ p ∈ glb, ∃ u v, mg p.1 = some u ∧ RelV v u ∧ ∀ H μ, RepV K H μ p.2 v
  blt : ∀ x ∈ blt, mg x = none
theorem call_len {Fs : List Fn} {k f : Nat} {fn : Fn} (hf : Fs[f]? = some fn) {ds : List D} {S : Store} (h : callN Fs k f ds S ≠ .bad) : ds.length = fn.np := by
  cases k with
  | zero => exact absurd rfl h
  | succ k =>
    unfold callN at h
    rw [hf] at h
    simp only at h
    split at h
    · assumption
    · exact absurd rfl h
theorem repE_start {K : PySem.W.Frag} {H : Hp} {μ : Mu} {ds : List D} {vs : List V} (r : RepVs K H μ ds vs) (N : List Str) (hl : ds.length ≤ N.length) : RepE K H μ (start N vs) (ds.map some ++ List.replicate (N.length - ds.length) none) := by
  have hv := r.length
  refine ⟨by simp [L2.start, hv], fun i d h => ?_⟩
  by_cases hi : i < ds.length
  · rw [List.getElem?_append_left (by simpa using hi), List.getElem?_map] at h
    cases e : ds[i]? with
    | none => rw [e] at h; cases h
    | some d' =>
      rw [e] at h
      cases h
      obtain ⟨v, h1, h2⟩ := r.get e
      refine ⟨v, ?_, h2⟩
      unfold L2.start
      rw [List.getElem?_append_left (by simpa [hv] using hi), List.getElem?_map, h1]
      rfl
  · rw [List.getElem?_append_right (by simpa using hi), List.getElem?_replicate] at h
    split at h <;> cases h
theorem fn_all {prog : Program} {w : World} {K : PySem.W.Frag} {mg : Str → Option Value} {base : Heap} {Ts : List FText} {glb : List (Str × D)} {blt : List Str} {γ : Nat → Value} (F : Facts K mg Ts glb blt)
    (hC : (Ts.all (textC (Ts.map (·.x)) glb blt)) = true) : ∀ (k : Nat) (f : Nat) (t : FText), Ts[f]? = some t → ∀ addr fd, Fun K t.x t.x t.st addr fd →
      FnOk prog w K mg base (L2.CX prog w) k addr fd t.ps (spF K γ (callN (Ts.map (·.fn)) k) t.ps.length f) := by
  intro k
  induction k with
  | zero =>
    intro f t ht addr fd Fu
    exact ⟨fun vs H Q E h => h.1, fun A outer s H args us vs Q E hr e0 hb r ⟨_, μ, S, ds, _, _, h⟩ => h.elim⟩
  | succ k ih =>
    intro f t ht addr fd Fu
    have htx := List.all_eq_true.mp hC t (List.mem_of_getElem? ht)
    obtain ⟨htx, c4⟩ := Bool.and_eq_true_iff.mp htx
    obtain ⟨htx, c3⟩ := Bool.and_eq_true_iff.mp htx
    obtain ⟨c1, c2⟩ := Bool.and_eq_true_iff.mp htx
    have hnp := of_decide_eq_true c2
    have hnl := of_decide_eq_true c3
    have sc := scope_of c1
    refine Fu.okX sc (fun vs H Q E h => h.1) fun cdv A outer s H vs Q E hr ⟨hl, μ, S, ds, rS, rv, h⟩ => ?_
    have hpl : t.ps.length ≤ t.N.length := by
      have := congrArg List.length sc.pre
      rw [List.length_take] at this
      omega
    have hds : ds.length = t.ps.length := by rw [← rv.length]; exact hl
    have G : GoodS (cxOf (L2.CX prog w) prog w K mg base t.N t.x (defScope t.st) addr cdv A outer s H E) (gamOf (Ts.map (·.x)) glb blt t) γ (fun cls d _ H => E cls d H) (callN (Ts.map (·.fn)) k) := {
      N := rfl
      nd := sc.nd
      sc := rfl
      fn := fun _ _ => rfl
      calm := fun _ => rfl
      un := by
        have := hr.units
        exact this
      glb := fun x d h => F.glb (x, d) (PySem.mem_of_lookup h)
      blt := fun x h => F.blt x (List.contains_iff_mem.mp (show blt.contains x = true from h))
      tk := takes_of rfl rfl rfl rfl
      fns := fun _ g x hg => by
        have hg' : (Ts.map (·.x))[g]? = some x := hg
        rw [List.getElem?_map] at hg'
        cases e : Ts[g]? with
        | none => rw [e] at hg'; cases hg'
        | some u =>
          rw [e] at hg'
          have hx : u.x = x := Option.some.inj hg'
          obtain ⟨ad, fd2, F1, F2, F3, F4⟩ := F.fns u (List.mem_of_getElem? e)
          have hu := List.all_eq_true.mp hC u (List.mem_of_getElem? e)
          have hnu := of_decide_eq_true (Bool.and_eq_true_iff.mp (Bool.and_eq_true_iff.mp (Bool.and_eq_true_iff.mp hu).1).1).2
          refine ⟨k, ad, fd2, u.ps, u.ps.length, ih g u e ad fd2 F1, fun ds S hb => ?_, hr, by rw [← hx]; exact F2, F3, F4⟩
          rw [← hnu]
          exact call_len (by rw [List.getElem?_map, e]; rfl) hb
      own := passes_of rfl }
    refine ⟨_, (ss_all G t.fn.body).b _ c4, μ, ds.map some ++ List.replicate (t.fn.nl - ds.length) none, S, ⟨by rw [hnl]; exact repE_start rv t.N (by rw [hds]; exact hpl), rS⟩, ?_⟩
    have hcall : callN (Ts.map (·.fn)) (k + 1) f ds S = finO S (run (callN (Ts.map (·.fn)) k) t.fn.body (ds.map some ++ List.replicate (t.fn.nl - ds.length) none) S) := by
      show (match (Ts.map (·.fn))[f]? with | some fn => _ | none => _) = _
      rw [List.getElem?_map, ht]
      show (if ds.length = t.fn.np then _ else _) = _
      rw [if_pos (by rw [hds, hnp])]
    rw [hcall] at h
    show PostO K γ (fun cls d _ H => E cls d H) μ H (run (callN (Ts.map (·.fn)) k) t.fn.body (ds.map some ++ List.replicate (t.fn.nl - ds.length) none) S) _
    cases e : run (callN (Ts.map (·.fn)) k) t.fn.body (ds.map some ++ List.replicate (t.fn.nl - ds.length) none) S with
    | nx ρ' S' =>
      rw [e] at h
      intro μ1 H1 σ1 le s1
      obtain ⟨d2, S2, μ2, e1, le2, r2, rv2⟩ := fin_ok (d := .non) rS le s1.s .non
      simp only [finO] at h
      rw [e1] at h
      exact h μ2 .non H1 le2 r2 rv2
    | ret d S' =>
      rw [e] at h
      intro μ1 H1 v le r1 rv1
      obtain ⟨d2, S2, μ2, e1, le2, r2, rv2⟩ := fin_ok rS le r1 rv1
      simp only [finO] at h
      rw [e1] at h
      exact h μ2 v H1 le2 r2 rv2
    | exc c fs ρ' S' =>
      rw [e] at h
      intro μ1 H1 σ1 dx le s1 xd
      have h : ∀ μ' H' d, Le K μ H μ' H' → RepS K H' μ' (if fs.isEmpty = true then finX S S' else S') → XD K H' μ' fs d → E (γ c) d H' := h
      cases fs with
      | cons q fs => exact h μ1 H1 dx le s1.s xd
      | nil =>
        have xd' : XD K H1 μ [] dx := by
          rcases xd with ⟨_, h2⟩ | ⟨a, gs, h1, h2, h3, h4⟩
          · exact .inl ⟨rfl, h2⟩
          · refine .inr ⟨a, gs, h1, h2, h3, ?_⟩
            cases gs with
            | nil => exact .nil
            | cons => cases h3
        have h : ∀ μ' H' d, Le K μ H μ' H' → RepS K H' μ' (finX S S') → XD K H' μ' [] d → E (γ c) d H' := h
        unfold finX at h
        by_cases hS : S'.take S.length = S
        · rw [if_pos hS] at h
          obtain ⟨r2, le2⟩ := keep_none rS le s1.s hS
          exact h μ H1 dx le2 r2 xd'
        · rw [if_neg hS] at h
          exact h μ1 H1 dx le s1.s xd
    | bk => rw [e] at h; exact h.elim
    | ct => rw [e] at h; exact h.elim
    | bad => rw [e] at h; exact h.elim
/-! ### the end of a law -/
theorem only_ro {K : PySem.W.Frag} {H : Hp} {a : Addr} {vs : List V} (hO : Only H) (h : SqL K H a vs) : RoL K H a vs := by
  rcases h with (h | h) | h
  · rcases hO a with z | ⟨o, xs, z⟩
    · rw [h] at z; cases z
    · rw [h] at z; cases z
  · exact .inl h
  · exact .inr h
theorem reps_ints {K : PySem.W.Frag} {H : Hp} {μ : Mu} : ∀ ns : List Int, RepVs K H μ (ns.map D.int) (ns.map V.int)
  | [] => .nil
  | n :: ns => .cons (.int n) (reps_ints ns)
theorem law_sp {K : PySem.W.Frag} {γ : Nat → Value} {P : Nat → List D → Store → R D} {f : Nat} (hlaw : ∀ ns : List Int, ns.length ≤ 63 → ∃ S', P f [.ref 0] [.ro (ns.map D.int)] = .ok (.bl true) S')
    (H : Hp) (a : Addr) (ns : List Int) (hl : ns.length ≤ 63) (hO : Only H) (hS : SqL K H a (ns.map V.int)) : spF K γ P 1 f [.ref a] H (fun v _ => v = .bl true) fun _ _ _ => False := by
  obtain ⟨S', e⟩ := hlaw ns hl
  refine ⟨rfl, [a], [.ro (ns.map D.int)], [.ref 0], ⟨rfl, fun n c b h1 h2 => ?_, fun m n b c e hmn h1 h2 h3 h4 => ?_⟩, .cons (.ref rfl) .nil, ?_⟩
  · cases n with
    | zero => cases h1; cases h2; exact ⟨_, only_ro hO hS, reps_ints ns⟩
    | succ n => simp at h1
  · cases m with
    | zero => cases h3; exact .inl rfl
    | succ m => simp at h3
  · rw [e]
    intro μ' v H' _ _ r
    cases r
    rfl
theorem law_walk {l : PySem.W.OpenLaw} {q : Program} {loose : List Str} {XP : (Str → Option Value) → Heap → Prop} {YP : World → Heap → Prop} {d : DefRec} {K : Params → PySem.W.Frag} {γ : PySem.W.Frag → Nat → Value} {Ts : List FText} {glb : List (Str × D)} {blt : List Str} {x : Str}
    {k f : Nat} {t : FText} (hn : l.most = some 63) (hdf : d.params.defaults = []) (hr : Room k callerA) (hY : ∀ (w : World) (h : Heap), YP w h → (K w.params).In h) (hC : (Ts.all (textC (Ts.map (·.x)) glb blt)) = true) (ht : Ts[f]? = some t) (hp : t.ps = [x])
    (F : ∀ (w : World) (mg : Str → Option Value) (fa : Addr) (h : Heap), (K w.params).In h → h.Ns mainGlobals mg → mg d.name = some (.ref fa) →
      Facts (K w.params) mg Ts glb blt ∧ ∃ fd, Fun (K w.params) t.x t.x t.st fa fd ∧ ∀ (s : Shared) (u : Value), BindsTo s fd ⟨[u], []⟩ [(x, u)])
    (hlaw : ∀ ns : List Int, ns.length ≤ 63 → ∃ S', callN (Ts.map (·.fn)) k f [.ref 0] [.ro (ns.map D.int)] = .ok (.bl true) S') :
    PySem.W.WalkO q loose XP YP l.row.toRowW d [] (fun f vs => PySem.call f vs) := by
  refine L2.walk_of (n := 63) (k := k) (x := x) (K := K) (CX := fun w => L2.CX l.prog w) (sp := fun w => spF (K w.params) (γ (K w.params)) (callN (Ts.map (·.fn)) k) 1 f) hn (by decide) hdf hr hY (fun w mg fa h KX G hmg => ?_) (fun w H a ns hl hO hS => law_sp hlaw H a ns hl hO hS) fun w H s e s' ⟨_, _, _, _, _, _, _, _, _, _, _, _, z⟩ => z
  obtain ⟨F1, fd, Fu, hb⟩ := F w mg fa h KX G hmg
  refine ⟨fd, hb, fun base _ _ => ?_⟩
  have := fn_all (prog := l.prog) (w := w) (base := base) (γ := γ (K w.params)) F1 hC k f t ht fa fd Fu
  rw [hp] at this
  exact this
end
end Ng

set_option Elab.async false
set_option linter.all false
set_option maxRecDepth 100000
/-! Rewriting by the evaluator; loops by invariants. -/
namespace Ng
open PySem
/-- an equation that rewriting states in full -/
theorem ng {α : Sort u} {a b : α} (h : a = b) : a = b := by cases h; exact Eq.refl _
section
variable {P : Nat → List D → Store → R D} {ρ : Env} {S : Store} {α β : Type}
@[simp] theorem bind_ok {a : α} {k : α → Store → R β} : (R.ok a S).bind k = k a S := ng rfl
@[simp] theorem bind_exc {c fs} {k : α → Store → R β} : (R.exc c fs S : R α).bind k = .exc c fs S := ng rfl
@[simp] theorem bind_bad {k : α → Store → R β} : (R.bad : R α).bind k = .bad := ng rfl
@[simp] theorem of_ok {a : α} {k : α → Store → O} : O.of ρ (R.ok a S) k = k a S := ng rfl
@[simp] theorem of_exc {c fs} {k : α → Store → O} : O.of ρ (R.exc c fs S : R α) k = .exc c fs ρ S := ng rfl
@[simp] theorem seq_nx {k : Env → Store → O} : (O.nx ρ S).seq k = k ρ S := ng rfl
@[simp] theorem seq_ret {d} {k : Env → Store → O} : (O.ret d S).seq k = .ret d S := ng rfl
@[simp] theorem seq_ct {k : Env → Store → O} : (O.ct ρ S).seq k = .ct ρ S := ng rfl
@[simp] theorem seq_bk {k : Env → Store → O} : (O.bk ρ S).seq k = .bk ρ S := ng rfl
@[simp] theorem seq_exc {c fs} {k : Env → Store → O} : (O.exc c fs ρ S).seq k = .exc c fs ρ S := ng rfl
@[simp] theorem ev_var (i : Nat) : ev P (.var i) ρ S = varR i ρ S := ng rfl
@[simp] theorem ev_non : ev P .non ρ S = .ok .non S := ng rfl
@[simp] theorem ev_bl (b : Bool) : ev P (.bl b) ρ S = .ok (.bl b) S := ng rfl
@[simp] theorem ev_int (i : Int) : ev P (.int i) ρ S = .ok (.int i) S := ng rfl
@[simp] theorem ev_str (x : Str) : ev P (.str x) ρ S = .ok (.str x) S := ng rfl
@[simp] theorem ev_glb (x : Str) (d : D) : ev P (.glb x d) ρ S = .ok d S := ng rfl
@[simp] theorem ev_bin (o a b) : ev P (.bin o a b) ρ S = (ev P a ρ S).bind fun x S1 => (ev P b ρ S1).bind fun y S2 => bin2 o x y S2 := ng rfl
@[simp] theorem ev_neg (a) : ev P (.neg a) ρ S = (ev P a ρ S).bind negR := ng rfl
@[simp] theorem ev_cmp (o a b) : ev P (.cmp o a b) ρ S = (ev P a ρ S).bind fun x S1 => (ev P b ρ S1).bind fun y S2 => cmpR o x y S2 := ng rfl
@[simp] theorem ev_chain (o1 o2 a b c) : ev P (.chain o1 o2 a b c) ρ S = (ev P a ρ S).bind fun x S1 => (ev P b ρ S1).bind fun y S2 => chainV o1 o2 (ev P c ρ) x y S2 := ng rfl
@[simp] theorem ev_not (a) : ev P (.not a) ρ S = (ev P a ρ S).bind fun x S1 => (truR x S1).bind fun b S2 => .ok (.bl (!b)) S2 := ng rfl
@[simp] theorem ev_and (a b) : ev P (.and a b) ρ S = (ev P a ρ S).bind fun x S1 => andR (ev P b ρ) x S1 := ng rfl
@[simp] theorem ev_or (a b) : ev P (.or a b) ρ S = (ev P a ρ S).bind fun x S1 => orR (ev P b ρ) x S1 := ng rfl
@[simp] theorem ev_ite (c a b) : ev P (.ite c a b) ρ S = (tst P c ρ S).bind fun t S1 => bif t then ev P a ρ S1 else ev P b ρ S1 := ng rfl
@[simp] theorem ev_tup (a) : ev P (.tup a) ρ S = (evs P a ρ S).bind tupR := ng rfl
@[simp] theorem ev_lst (a) : ev P (.lst a) ρ S = (evs P a ρ S).bind lstR := ng rfl
@[simp] theorem ev_ix (a b) : ev P (.ix a b) ρ S = (ev P a ρ S).bind fun x S1 => (ev P b ρ S1).bind fun y S2 => ix2 x y S2 := ng rfl
@[simp] theorem ev_slc (a l h) : ev P (.slc a l h) ρ S = (ev P a ρ S).bind fun x S1 => (evo P l ρ S1).bind fun l S2 => (evo P h ρ S2).bind fun h S3 => slc2 x l h S3 := ng rfl
@[simp] theorem ev_call (f a) : ev P (.call f a) ρ S = (evs P a ρ S).bind fun ds S1 => P f ds S1 := ng rfl
@[simp] theorem ev_bi (f a) : ev P (.bi f a) ρ S = (evs P a ρ S).bind fun ds S1 => biD f ds S1 := ng rfl
@[simp] theorem ev_me (m o a) : ev P (.me m o a) ρ S = (ev P o ρ S).bind fun x S1 => bif meOk m x S1 then (evs P a ρ S1).bind fun ds S2 => meD m x ds S2 else .bad := ng rfl
@[simp] theorem ev_isi (a ts m) : ev P (.isi a ts m) ρ S = (ev P a ρ S).bind fun x S1 => isiR ts x S1 := ng rfl
@[simp] theorem ev_lc (own tg src cond elt) : ev P (.lc own tg src cond elt) ρ S = (itr P src ρ S).bind fun it S1 => lcR own tg (tst P cond) (ev P elt) ρ it S1 := ng rfl
@[simp] theorem evs_nil : evs P .nil ρ S = .ok [] S := ng rfl
@[simp] theorem evs_cons (a as) : evs P (.cons a as) ρ S = (ev P a ρ S).bind fun x S1 => (evs P as ρ S1).bind fun xs S2 => .ok (x :: xs) S2 := ng rfl
@[simp] theorem evo_nil : evo P .nil ρ S = .ok none S := ng rfl
@[simp] theorem evo_int (i : Int) : evo P (.int i) ρ S = .ok (some i) S := ng rfl
@[simp] theorem evo_var (i : Nat) : evo P (.var i) ρ S = (varR i ρ S).bind optR := ng rfl
@[simp] theorem evo_bin (o a b) : evo P (.bin o a b) ρ S = (ev P (.bin o a b) ρ S).bind optR := ng rfl
@[simp] theorem evo_neg (a) : evo P (.neg a) ρ S = (ev P (.neg a) ρ S).bind optR := ng rfl
@[simp] theorem evo_bi (f a) : evo P (.bi f a) ρ S = (ev P (.bi f a) ρ S).bind optR := ng rfl
@[simp] theorem evo_ix (a b) : evo P (.ix a b) ρ S = (ev P (.ix a b) ρ S).bind optR := ng rfl
@[simp] theorem optR_int (i : Int) : optR (.int i) S = .ok (some i) S := ng rfl
@[simp] theorem itr_rng (a) : itr P (.rng a) ρ S = (evs P a ρ S).bind rngR := ng rfl
@[simp] theorem itr_var (i : Nat) : itr P (.var i) ρ S = (varR i ρ S).bind itD := ng rfl
@[simp] theorem itr_slc (a l h) : itr P (.slc a l h) ρ S = (ev P (.slc a l h) ρ S).bind itD := ng rfl
@[simp] theorem itr_call (f a) : itr P (.call f a) ρ S = (ev P (.call f a) ρ S).bind itD := ng rfl
@[simp] theorem itr_ix (a b) : itr P (.ix a b) ρ S = (ev P (.ix a b) ρ S).bind itD := ng rfl
@[simp] theorem itr_lst (a) : itr P (.lst a) ρ S = (ev P (.lst a) ρ S).bind itD := ng rfl
@[simp] theorem itr_tup (a) : itr P (.tup a) ρ S = (ev P (.tup a) ρ S).bind itD := ng rfl
@[simp] theorem itr_glb (x d) : itr P (.glb x d) ρ S = itD d S := ng rfl
@[simp] theorem itr_bin (o a b) : itr P (.bin o a b) ρ S = (ev P (.bin o a b) ρ S).bind itD := ng rfl
@[simp] theorem tst_not (a) : tst P (.not a) ρ S = (tst P a ρ S).bind fun b S1 => .ok (!b) S1 := ng rfl
@[simp] theorem tst_and (a b) : tst P (.and a b) ρ S = (tst P a ρ S).bind fun t S1 => bif t then tst P b ρ S1 else .ok false S1 := ng rfl
@[simp] theorem tst_or (a b) : tst P (.or a b) ρ S = (tst P a ρ S).bind fun t S1 => bif t then .ok true S1 else tst P b ρ S1 := ng rfl
@[simp] theorem tst_cmp (o a b) : tst P (.cmp o a b) ρ S = (ev P a ρ S).bind fun x S1 => (ev P b ρ S1).bind fun y S2 => cmpT o x y S2 := ng rfl
@[simp] theorem tst_chain (o1 o2 a b c) : tst P (.chain o1 o2 a b c) ρ S = (ev P a ρ S).bind fun x S1 => (ev P b ρ S1).bind fun y S2 => chainT o1 o2 (ev P c ρ) x y S2 := ng rfl
@[simp] theorem tst_var (i : Nat) : tst P (.var i) ρ S = (varR i ρ S).bind truR := ng rfl
@[simp] theorem tst_bl (b : Bool) : tst P (.bl b) ρ S = .ok b S := ng rfl
@[simp] theorem tst_call (f a) : tst P (.call f a) ρ S = (ev P (.call f a) ρ S).bind truR := ng rfl
@[simp] theorem tst_bi (f a) : tst P (.bi f a) ρ S = (ev P (.bi f a) ρ S).bind truR := ng rfl
@[simp] theorem tst_isi (a ts m) : tst P (.isi a ts m) ρ S = (ev P (.isi a ts m) ρ S).bind truR := ng rfl
@[simp] theorem tst_ix (a b) : tst P (.ix a b) ρ S = (ev P (.ix a b) ρ S).bind truR := ng rfl
@[simp] theorem tst_bin (o a b) : tst P (.bin o a b) ρ S = (ev P (.bin o a b) ρ S).bind truR := ng rfl
@[simp] theorem truR_bl (b : Bool) : truR (.bl b) S = .ok b S := ng rfl
@[simp] theorem truR_int (i : Int) : truR (.int i) S = .ok (i != 0) S := ng rfl
@[simp] theorem truR_non : truR .non S = .ok false S := ng rfl
@[simp] theorem truR_tup (ds) : truR (.tup ds) S = .ok (!ds.isEmpty) S := ng rfl
@[simp] theorem negR_int (i : Int) : negR (.int i) S = .ok (.int (-i)) S := ng rfl
@[simp] theorem andR_bl (k) (b : Bool) : andR k (.bl b) S = bif b then k S else .ok (.bl false) S := by cases b <;> rfl
@[simp] theorem orR_bl (k) (b : Bool) : orR k (.bl b) S = bif b then .ok (.bl true) S else k S := by cases b <;> rfl
@[simp] theorem run_skip : run P .skip ρ S = .nx ρ S := ng rfl
@[simp] theorem run_pass : run P .pass ρ S = .nx ρ S := ng rfl
@[simp] theorem run_seq (a b) : run P (.seq a b) ρ S = (run P a ρ S).seq (run P b) := ng rfl
@[simp] theorem run_ex (e) : run P (.ex e) ρ S = O.of ρ (ev P e ρ S) fun _ S1 => .nx ρ S1 := ng rfl
@[simp] theorem run_asg (tg e) : run P (.asg tg e) ρ S = O.of ρ (ev P e ρ S) fun d S1 => asgO tg d ρ S1 := ng rfl
@[simp] theorem run_aug (i o e) : run P (.aug i o e) ρ S = match ρ[i]? with
    | some (some x) => O.of ρ (ev P e ρ S) fun d S1 => O.of ρ (augB o x d S1) fun z S2 => .nx (ρ.set i (some z)) S2
    | _ => .bad := ng rfl
@[simp] theorem augB_add (i j : Int) : augB .add (.int i) (.int j) S = .ok (.int (i + j)) S := ng rfl
@[simp] theorem augB_sub (i j : Int) : augB .sub (.int i) (.int j) S = .ok (.int (i - j)) S := ng rfl
@[simp] theorem run_ret (e) : run P (.ret e) ρ S = O.of ρ (ev P e ρ S) fun d S1 => .ret d S1 := ng rfl
@[simp] theorem run_retN : run P .retN ρ S = .ret .non S := ng rfl
@[simp] theorem run_ite (c a b) : run P (.ite c a b) ρ S = O.of ρ (tst P c ρ S) fun t S1 => bif t then run P a ρ S1 else run P b ρ S1 := ng rfl
@[simp] theorem run_whl (n c b) : run P (.whl n c b) ρ S = whlL (tst P c) (run P b) n ρ S := ng rfl
@[simp] theorem run_for (tg it b) : run P (.for tg it b) ρ S = O.of ρ (itr P it ρ S) fun w S1 => forL (ckS w.lk) (fun x ρ S => (asgO tg x ρ S).seq (run P b)) w.ds ρ S1 := ng rfl
@[simp] theorem run_brk : run P .brk ρ S = .bk ρ S := ng rfl
@[simp] theorem run_cnt : run P .cnt ρ S = .ct ρ S := ng rfl
@[simp] theorem asgO_var (i : Nat) (d : D) : asgO (.var i) d ρ S = .nx (ρ.set i (some d)) S := ng rfl
@[simp] theorem ckS_none : ckS none S = true := ng rfl
@[simp] theorem ckS_some (n c) : ckS (some (n, c)) S = decide (S[n]? = some c) := ng rfl
/-! ### operations on known kinds -/
@[simp] theorem b2_add (i j : Int) : bin2 .add (.int i) (.int j) S = .ok (.int (i + j)) S := ng rfl
@[simp] theorem b2_sub (i j : Int) : bin2 .sub (.int i) (.int j) S = .ok (.int (i - j)) S := ng rfl
theorem b2_mul (i j : Int) (h : (-18446744073709551616 < i ∧ i < 18446744073709551616) ∨ (-18446744073709551616 < j ∧ j < 18446744073709551616)) : bin2 .mul (.int i) (.int j) S = .ok (.int (i * j)) S := if_pos h
@[simp] theorem b2_mulR (i j : Int) (h : -18446744073709551616 < j ∧ j < 18446744073709551616) : bin2 .mul (.int i) (.int j) S = .ok (.int (i * j)) S := b2_mul i j (.inr h)
@[simp] theorem b2_mulL (i j : Int) (h : -18446744073709551616 < i ∧ i < 18446744073709551616) : bin2 .mul (.int i) (.int j) S = .ok (.int (i * j)) S := b2_mul i j (.inl h)
@[simp] theorem b2_fdiv (i j : Int) (h : 0 < j ∧ j < 1073741824) : bin2 .fdiv (.int i) (.int j) S = .ok (.int (i / j)) S := if_pos h
@[simp] theorem b2_mod (i j : Int) (h : 0 < j) : bin2 .mod (.int i) (.int j) S = .ok (.int (i % j)) S := if_pos h
@[simp] theorem b2_pow (i j : Int) (h : 0 ≤ j ∧ j ≤ 1000000 ∧ i.natAbs < 18446744073709551616) : bin2 .pow (.int i) (.int j) S = .ok (.int (i ^ j.toNat)) S := if_pos h
@[simp] theorem cT_lt (i j : Int) : cmpT .lt (.int i) (.int j) S = .ok (decide (i < j)) S := ng rfl
@[simp] theorem cT_le (i j : Int) : cmpT .le (.int i) (.int j) S = .ok (decide (i ≤ j)) S := ng rfl
@[simp] theorem cT_gt (i j : Int) : cmpT .gt (.int i) (.int j) S = .ok (decide (j < i)) S := ng rfl
@[simp] theorem cT_ge (i j : Int) : cmpT .ge (.int i) (.int j) S = .ok (decide (j ≤ i)) S := ng rfl
@[simp] theorem cT_eq (i j : Int) : cmpT .eq (.int i) (.int j) S = .ok (decide (i = j)) S := ng rfl
@[simp] theorem cT_ne (i j : Int) : cmpT .ne (.int i) (.int j) S = .ok (!decide (i = j)) S := ng rfl
@[simp] theorem cR_lt (i j : Int) : cmpR .lt (.int i) (.int j) S = .ok (.bl (decide (i < j))) S := ng rfl
@[simp] theorem cR_le (i j : Int) : cmpR .le (.int i) (.int j) S = .ok (.bl (decide (i ≤ j))) S := ng rfl
@[simp] theorem cR_gt (i j : Int) : cmpR .gt (.int i) (.int j) S = .ok (.bl (decide (j < i))) S := ng rfl
@[simp] theorem cR_ge (i j : Int) : cmpR .ge (.int i) (.int j) S = .ok (.bl (decide (j ≤ i))) S := ng rfl
@[simp] theorem cR_eq (i j : Int) : cmpR .eq (.int i) (.int j) S = .ok (.bl (decide (i = j))) S := ng rfl
@[simp] theorem cR_ne (i j : Int) : cmpR .ne (.int i) (.int j) S = .ok (.bl (!decide (i = j))) S := ng rfl
@[simp] theorem len_lst {n : Nat} {ds : List D} (h : S[n]? = some (.lst ds)) : biD .len [.ref n] S = .ok (.int ds.length) S := by simp [biD, seqD, h]
@[simp] theorem len_ro {n : Nat} {ds : List D} (h : S[n]? = some (.ro ds)) : biD .len [.ref n] S = .ok (.int ds.length) S := by simp [biD, seqD, h]
@[simp] theorem len_tup (ds : List D) : biD .len [.tup ds] S = .ok (.int ds.length) S := ng rfl
@[simp] theorem bi_abs' (i : Int) : biD .abs [.int i] S = .ok (.int (if i < 0 then -i else i)) S := ng rfl
@[simp] theorem bi_min' (i j : Int) : biD .min2 [.int i, .int j] S = .ok (.int (if j < i then j else i)) S := ng rfl
@[simp] theorem bi_max' (i j : Int) : biD .max2 [.int i, .int j] S = .ok (.int (if j > i then j else i)) S := ng rfl
@[simp] theorem bi_min3' (i j k : Int) : biD .min3 [.int i, .int j, .int k] S = .ok (.int (if k < (if j < i then j else i) then k else if j < i then j else i)) S := ng rfl
@[simp] theorem bi_max3' (i j k : Int) : biD .max3 [.int i, .int j, .int k] S = .ok (.int (if (if i < j then j else i) < k then k else if i < j then j else i)) S := ng rfl
@[simp] theorem bi_int' (i : Int) : biD .int [.int i] S = .ok (.int i) S := ng rfl
@[simp] theorem bi_intb (b : Bool) : biD .int [.bl b] S = .ok (.int (if b then 1 else 0)) S := ng rfl
@[simp] theorem bi_tuple_lst {n : Nat} {ds : List D} (h : S[n]? = some (.lst ds)) : biD .tuple [.ref n] S = .ok (.tup ds) S := by simp [biD, seqD, h]
@[simp] theorem bi_tuple_tup (ds : List D) : biD .tuple [.tup ds] S = .ok (.tup ds) S := ng rfl
@[simp] theorem bi_list_lst {n : Nat} {ds : List D} (h : S[n]? = some (.lst ds)) : biD .list [.ref n] S = .ok (.ref S.length) (S ++ [.lst ds]) := by simp [biD, seqD, h]
@[simp] theorem bi_list_tup (ds : List D) : biD .list [.tup ds] S = .ok (.ref S.length) (S ++ [.lst ds]) := ng rfl
@[simp] theorem meOk_lst {n : Nat} {ds : List D} (h : S[n]? = some (.lst ds)) : meOk .append (.ref n) S = true := by simp [meOk, h]
@[simp] theorem meD_append {n : Nat} {ds : List D} {d : D} (h : S[n]? = some (.lst ds)) (hl : ds.length < linesz) : meD .append (.ref n) [d] S = .ok .non (S.set n (.lst (ds ++ [d]))) := by simp [meD, h, hl]
@[simp] theorem lstR_ok (ds : List D) (h : ds.length ≤ linesz) : lstR ds S = .ok (.ref S.length) (S ++ [.lst ds]) := if_pos h
@[simp] theorem tupR_ok (ds : List D) (h : ds.length ≤ linesz) : tupR ds S = .ok (.tup ds) S := if_pos h
@[simp] theorem slc_tup' (ds : List D) (lo hi) : slc2 (.tup ds) lo hi S = .ok (.tup (cutD ds lo hi)) S := ng rfl
@[simp] theorem slc_lst {n : Nat} {ds : List D} (h : S[n]? = some (.lst ds)) (lo hi) : slc2 (.ref n) lo hi S = .ok (.ref S.length) (S ++ [.lst (cutD ds lo hi)]) := by simp [slc2, h]
@[simp] theorem slc_ro {n : Nat} {ds : List D} (h : S[n]? = some (.ro ds)) (lo hi) : slc2 (.ref n) lo hi S = .ok (.ref S.length) (S ++ [.lst (cutD ds lo hi)]) := by simp [slc2, h]
@[simp] theorem itD_tup (ds : List D) : itD (.tup ds) S = .ok ⟨ds, none⟩ S := ng rfl
@[simp] theorem itD_lst {n : Nat} {ds : List D} (h : S[n]? = some (.lst ds)) : itD (.ref n) S = .ok ⟨ds, some (n, .lst ds)⟩ S := by simp [itD, h]
@[simp] theorem itD_ro {n : Nat} {ds : List D} (h : S[n]? = some (.ro ds)) : itD (.ref n) S = .ok ⟨ds, some (n, .ro ds)⟩ S := by simp [itD, h]
@[simp] theorem rngR1 (n : Int) (h : -4611686018427387904 ≤ n ∧ n < 4611686018427387904) : rngR [.int n] S = .ok ⟨rngD 0 n.toNat, none⟩ S := by
  simp only [rngR, rgD, if_pos h]
@[simp] theorem rngR2 (a b : Int) (h : -4611686018427387904 ≤ a ∧ a < 4611686018427387904 ∧ -4611686018427387904 ≤ b ∧ b < 4611686018427387904) : rngR [.int a, .int b] S = .ok ⟨rngD a (b - a).toNat, none⟩ S := by
  simp only [rngR, rgD, if_pos h]
@[simp] theorem finO_ret (d : D) (S' : Store) : finO S (.ret d S') = fin S d S' := ng rfl
@[simp] theorem finO_nx (ρ : Env) (S' : Store) : finO S (.nx ρ S') = fin S .non S' := ng rfl
theorem linesz_is : linesz = 16777216 := rfl
@[simp] theorem b2_cat {m n : Nat} {xs ys : List D} (h1 : S[m]? = some (.lst xs)) (h2 : S[n]? = some (.lst ys)) (hl : xs.length + ys.length ≤ linesz) : bin2 .add (.ref m) (.ref n) S = .ok (.ref S.length) (S ++ [.lst (xs ++ ys)]) := by simp [bin2, h1, h2, hl]
@[simp] theorem b2_tcat {xs ys : List D} (hl : xs.length + ys.length ≤ linesz) : bin2 .add (.tup xs) (.tup ys) S = .ok (.tup (xs ++ ys)) S := if_pos hl
theorem fin_any {d : D} (h : d.refs = []) (S' : Store) : ∃ S2, fin S d S' = .ok d S2 := by
  unfold fin
  rw [h]
  by_cases e : S'.take S.length = S
  · rw [if_pos e]; exact ⟨_, rfl⟩
  · rw [if_neg e]; exact ⟨_, rfl⟩
/-- an item -/
def atR (ds : List D) (i : Int) (S : Store) : R D := match L2.atI ds i with | some d => .ok d S | none => .bad
theorem atR_some {ds : List D} {i : Int} {d : D} (h : L2.atI ds i = some d) : atR ds i S = .ok d S := by unfold atR; rw [h]
theorem atR_nat {ds : List D} {i : Nat} {d : D} (h : ds[i]? = some d) : atR ds (i : Int) S = .ok d S := atR_some (L2.atI_nat h)
theorem atR_int {ds : List D} {i : Int} {d : D} (h0 : 0 ≤ i) (h : ds[i.toNat]? = some d) : atR ds i S = .ok d S := by
  have := atR_nat (S := S) h
  rwa [Int.toNat_of_nonneg h0] at this
@[simp] theorem ix_tup' (ds : List D) (i : Int) : ix2 (.tup ds) (.int i) S = atR ds i S := ng rfl
@[simp] theorem ix_lst {n : Nat} {ds : List D} (h : S[n]? = some (.lst ds)) (i : Int) : ix2 (.ref n) (.int i) S = atR ds i S := by
  show (match S[n]? with | some (.lst ds) => _ | some (.ro ds) => _ | _ => _) = _
  rw [h]; rfl
@[simp] theorem ix_ro {n : Nat} {ds : List D} (h : S[n]? = some (.ro ds)) (i : Int) : ix2 (.ref n) (.int i) S = atR ds i S := by
  show (match S[n]? with | some (.lst ds) => _ | some (.ro ds) => _ | _ => _) = _
  rw [h]; rfl
@[simp] theorem at_0 {x0 : D} {r : List D} : atR (x0 :: r) 0 S = .ok x0 S := atR_nat (i := 0) rfl
@[simp] theorem at_1 {x0 x1 : D} {r : List D} : atR (x0 :: x1 :: r) 1 S = .ok x1 S := atR_nat (i := 1) rfl
@[simp] theorem at_2 {x0 x1 x2 : D} {r : List D} : atR (x0 :: x1 :: x2 :: r) 2 S = .ok x2 S := atR_nat (i := 2) rfl
@[simp] theorem at_3 {x0 x1 x2 x3 : D} {r : List D} : atR (x0 :: x1 :: x2 :: x3 :: r) 3 S = .ok x3 S := atR_nat (i := 3) rfl
@[simp] theorem at_4 {x0 x1 x2 x3 x4 : D} {r : List D} : atR (x0 :: x1 :: x2 :: x3 :: x4 :: r) 4 S = .ok x4 S := atR_nat (i := 4) rfl
@[simp] theorem at_5 {x0 x1 x2 x3 x4 x5 : D} {r : List D} : atR (x0 :: x1 :: x2 :: x3 :: x4 :: x5 :: r) 5 S = .ok x5 S := atR_nat (i := 5) rfl
@[simp] theorem at_6 {x0 x1 x2 x3 x4 x5 x6 : D} {r : List D} : atR (x0 :: x1 :: x2 :: x3 :: x4 :: x5 :: x6 :: r) 6 S = .ok x6 S := atR_nat (i := 6) rfl
@[simp] theorem at_7 {x0 x1 x2 x3 x4 x5 x6 x7 : D} {r : List D} : atR (x0 :: x1 :: x2 :: x3 :: x4 :: x5 :: x6 :: x7 :: r) 7 S = .ok x7 S := atR_nat (i := 7) rfl
/-! ### the store: an elder part, and what the def has made -/
variable {l : List Cell}
@[simp] theorem get0 : (S ++ l)[S.length]? = l[0]? := by rw [List.getElem?_append_right (Nat.le_refl _)]; simp
@[simp] theorem getk (k : Nat) : (S ++ l)[S.length + k]? = l[k]? := by rw [List.getElem?_append_right (Nat.le_add_right _ _)]; simp
@[simp] theorem set0 (c : Cell) : (S ++ l).set S.length c = S ++ l.set 0 c := by rw [List.set_append_right _ _ (Nat.le_refl _)]; simp
@[simp] theorem setk (k : Nat) (c : Cell) : (S ++ l).set (S.length + k) c = S ++ l.set k c := by rw [List.set_append_right _ _ (Nat.le_add_right _ _)]; simp
theorem get_lo {n : Nat} {c : Cell} (h : S[n]? = some c) : (S ++ l)[n]? = some c := by
  rw [List.getElem?_append_left (List.getElem?_eq_some_iff.mp h).1]; exact h
theorem fin_pure {d : D} (h : d.refs = []) : fin S d (S ++ l) = .ok d S := by
  unfold fin
  rw [if_pos (by simp), h]
theorem fin_pure0 {d : D} (h : d.refs = []) : fin S d S = .ok d S := by
  have := fin_pure (S := S) (l := []) h
  rwa [List.append_nil] at this
@[simp] theorem refs_int (i : Int) : D.refs (.int i) = [] := ng rfl
@[simp] theorem refs_bl (i : Bool) : D.refs (.bl i) = [] := ng rfl
@[simp] theorem refs_non : D.refs .non = [] := ng rfl
@[simp] theorem refs_str (i : Str) : D.refs (.str i) = [] := ng rfl
@[simp] theorem refs_tup (ds : List D) : D.refs (.tup ds) = D.refsL ds := by simp [D.refs]
@[simp] theorem refsL_nil : D.refsL [] = [] := ng rfl
@[simp] theorem refsL_cons (d : D) (ds : List D) : D.refsL (d :: ds) = d.refs ++ D.refsL ds := by simp [D.refsL]
@[simp] theorem refsL_append (xs ys : List D) : D.refsL (xs ++ ys) = D.refsL xs ++ D.refsL ys := by
  induction xs with
  | nil => rfl
  | cons x xs ih => simp [ih]
@[simp] theorem refsL_ints (ns : List Int) : D.refsL (ns.map D.int) = [] := by
  induction ns with
  | nil => rfl
  | cons x xs ih => simp [ih]
/-- a fresh list without further cells comes out -/
theorem fin_list {ds : List D} {a : List Cell} {c : List Cell} (h : D.refsL ds = []) : fin S (.ref (S.length + a.length)) (S ++ a ++ .lst ds :: c) = .ok (.ref S.length) (S ++ [.lst ds]) := by
  have hg : (S ++ a ++ Cell.lst ds :: c)[S.length + a.length]? = some (.lst ds) := by
    rw [List.getElem?_append_right (by simp)]; simp
  unfold fin
  rw [if_pos (by simp)]
  simp only [D.refs]
  have hr : reach (S ++ a ++ .lst ds :: c) S.length 100000 [S.length + a.length] [] = [S.length + a.length] := by
    have e1 : ¬ (S.length + a.length < S.length ∨ S.length + a.length ∈ ([] : List Nat)) := by simp
    rw [show (100000 : Nat) = 99998 + 1 + 1 from rfl]
    unfold reach
    rw [if_neg e1, hg]
    show reach _ _ _ (D.refsL ds ++ []) _ = _
    rw [h]
    rfl
  rw [hr]
  simp only [List.flatMap_cons, List.flatMap_nil, hg, Cell.refs, h]
  have hlt : S.length + a.length < (S ++ a ++ Cell.lst ds :: c).length := by simp
  simp only [List.all_nil, List.append_nil, List.all_cons, Bool.and_true, List.mem_singleton, decide_true, Bool.or_true, List.nodup_cons, List.not_mem_nil, not_false_eq_true, List.nodup_nil, and_self, Nat.le_add_right, hlt]
  simp only [if_true, List.filterMap_cons, hg, Option.map_some, List.filterMap_nil, D.ren, Cell.ren]
  rw [D.renL_id ds fun n hn => by rw [h] at hn; cases hn]
  simp [renOf]
  omega
theorem fin_at {ds : List D} {cs : List Cell} {i : Nat} (hc : cs[i]? = some (.lst ds)) (h : D.refsL ds = []) : fin S (.ref (S.length + i)) (S ++ cs) = .ok (.ref S.length) (S ++ [.lst ds]) := by
  have hi := (List.getElem?_eq_some_iff.mp hc).1
  have e := fin_list (S := S) (a := cs.take i) (c := cs.drop (i + 1)) h
  have e2 : cs.take i ++ Cell.lst ds :: cs.drop (i + 1) = cs := by
    rw [show Cell.lst ds = cs[i] from (List.getElem?_eq_some_iff.mp hc).2.symm, List.getElem_cons_drop, List.take_append_drop]
  rw [List.append_assoc, e2, List.length_take, Nat.min_eq_left (by omega)] at e
  exact e
theorem set_same {α : Type} {l : List α} {n : Nat} {c : α} (h : l[n]? = some c) : l.set n c = l := by
  apply List.ext_getElem?
  intro i
  by_cases hi : n = i
  · subst hi
    rw [List.getElem?_set_self (List.getElem?_eq_some_iff.mp h).1, h]
  · rw [List.getElem?_set_ne hi]
/-! ### loops -/
theorem forL_inv {ck : Store → Bool} {f : D → Env → Store → O} (I : Nat → Env → Store → Prop) : ∀ (ds : List D) (i : Nat) (ρ : Env) (S : Store), I i ρ S →
    (∀ j ρ S, I j ρ S → ck S = true) → (∀ (j : Nat) x ρ S, ds[j]? = some x → I (i + j) ρ S → ∃ ρ' S', f x ρ S = .nx ρ' S' ∧ I (i + j + 1) ρ' S') →
    ∃ ρ' S', forL ck f ds ρ S = .nx ρ' S' ∧ I (i + ds.length) ρ' S'
  | [], i, ρ, S, h0, hck, _ => ⟨ρ, S, by simp only [forL, hck i ρ S h0, cond_true], h0⟩
  | x :: ds, i, ρ, S, h0, hck, step => by
    obtain ⟨ρ1, S1, e1, h1⟩ := step 0 x ρ S rfl h0
    obtain ⟨ρ2, S2, e2, h2⟩ := forL_inv I ds (i + 1) ρ1 S1 h1 hck fun j y ρ S hj hI => by
      have := step (j + 1) y ρ S (by simpa using hj) (by rw [show i + (j + 1) = i + 1 + j by omega]; exact hI)
      rwa [show i + (j + 1) + 1 = i + 1 + j + 1 by omega] at this
    refine ⟨ρ2, S2, ?_, by rw [show i + (x :: ds).length = i + 1 + ds.length by simp; omega]; exact h2⟩
    simp only [forL, hck i ρ S h0, cond_true, e1]
    exact e2
/-- over the whole list -/
theorem for_inv {ck : Store → Bool} {f : D → Env → Store → O} {ds : List D} (I : Nat → Env → Store → Prop) (h0 : I 0 ρ S) (hck : ∀ j ρ S, I j ρ S → ck S = true)
    (step : ∀ (j : Nat) x ρ S, ds[j]? = some x → I j ρ S → ∃ ρ' S', f x ρ S = .nx ρ' S' ∧ I (j + 1) ρ' S') : ∃ ρ' S', forL ck f ds ρ S = .nx ρ' S' ∧ I ds.length ρ' S' := by
  obtain ⟨ρ', S', e, h⟩ := forL_inv I ds 0 ρ S h0 hck fun j x ρ S hj hI => by
    rw [Nat.zero_add] at hI ⊢
    exact step j x ρ S hj hI
  rw [Nat.zero_add] at h
  exact ⟨ρ', S', e, h⟩
/-- a loop that may end with an answer -/
theorem for_ret {ck : Store → Bool} {f : D → Env → Store → O} {r : D} (p : D → Bool) (I : Env → Store → Prop) (J : Store → Prop) : ∀ (ds : List D) (ρ : Env) (S : Store), I ρ S → (∀ ρ S, I ρ S → ck S = true) →
    (∀ x ∈ ds, ∀ ρ S, I ρ S → (p x = false ∧ ∃ ρ' S', f x ρ S = .nx ρ' S' ∧ I ρ' S') ∨ (p x = true ∧ ∃ S', f x ρ S = .ret r S' ∧ J S')) →
    (ds.any p = false ∧ ∃ ρ' S', forL ck f ds ρ S = .nx ρ' S' ∧ I ρ' S') ∨ (ds.any p = true ∧ ∃ S', forL ck f ds ρ S = .ret r S' ∧ J S')
  | [], ρ, S, h0, hck, _ => .inl ⟨rfl, ρ, S, by simp only [forL, hck ρ S h0, cond_true], h0⟩
  | x :: ds, ρ, S, h0, hck, step => by
    rcases step x List.mem_cons_self ρ S h0 with ⟨hp, ρ1, S1, e1, h1⟩ | ⟨hp, S1, e1, h1⟩
    · rcases for_ret p I J ds ρ1 S1 h1 hck fun y hy => step y (List.mem_cons_of_mem _ hy) with ⟨h2, ρ2, S2, e2, h3⟩ | ⟨h2, S2, e2, h3⟩
      · refine .inl ⟨by simp [hp, h2], ρ2, S2, ?_, h3⟩
        simp only [forL, hck ρ S h0, cond_true, e1]
        exact e2
      · refine .inr ⟨by simp [h2], S2, ?_, h3⟩
        simp only [forL, hck ρ S h0, cond_true, e1]
        exact e2
    · refine .inr ⟨by simp [hp], S1, ?_, h1⟩
      simp only [forL, hck ρ S h0, cond_true, e1]
theorem rng_at {lo : Int} {n j : Nat} {x : D} (h : (rngD lo n)[j]? = some x) : j < n ∧ x = .int (lo + j) := by
  unfold rngD at h
  rw [List.getElem?_map] at h
  cases e : (List.range n)[j]? with
  | none => rw [e] at h; cases h
  | some k =>
    rw [e] at h
    cases h
    have hi := (List.getElem?_eq_some_iff.mp e).1
    rw [List.length_range] at hi
    rw [List.getElem?_range hi] at e
    cases e
    exact ⟨hi, rfl⟩
@[simp] theorem rng_len {lo : Int} {n : Nat} : (rngD lo n).length = n := by simp [rngD]
/-- a comprehension whose elements change nothing -/
theorem lcL_pure {n : Nat} {ck : Store → Bool} {f : D → Store → R (Option D)} {g : D → Option D} : ∀ (ds : List D) (acc : List D) (S : Store), S[n]? = some (.lst acc) → acc.length + ds.length ≤ 1000000 →
    (∀ acc', ck (S.set n (.lst acc')) = true) → (∀ x ∈ ds, ∀ acc', f x (S.set n (.lst acc')) = .ok (g x) (S.set n (.lst acc'))) → lcL n ck f ds S = .ok () (S.set n (.lst (acc ++ ds.filterMap g)))
  | [], acc, S, hS, _, hck, _ => by
    have e : S.set n (.lst acc) = S := by
      apply List.ext_getElem?
      intro i
      by_cases hi : n = i
      · subst hi
        rw [List.getElem?_set_self (List.getElem?_eq_some_iff.mp hS).1, hS]
      · rw [List.getElem?_set_ne hi]
    have h1 := hck acc
    rw [e] at h1
    simp only [lcL, h1, cond_true, List.filterMap_nil, List.append_nil, e]
  | x :: ds, acc, S, hS, hl, hck, hf => by
    have hn := (List.getElem?_eq_some_iff.mp hS).1
    have e : S.set n (.lst acc) = S := by
      apply List.ext_getElem?
      intro i
      by_cases hi : n = i
      · subst hi
        rw [List.getElem?_set_self hn, hS]
      · rw [List.getElem?_set_ne hi]
    have h1 := hck acc
    have h2 := hf x List.mem_cons_self acc
    rw [e] at h1 h2
    simp only [lcL, h1, cond_true, h2]
    have hl' : acc.length + ds.length + 1 ≤ 1000000 := by simpa [Nat.add_assoc] using hl
    cases hg : g x with
    | none =>
      simp only
      rw [lcL_pure ds acc S hS (by omega) hck fun y hy => hf y (List.mem_cons_of_mem _ hy), List.filterMap_cons, hg]
    | some d =>
      simp only [hS]
      rw [if_pos (by show acc.length < linesz; unfold linesz; omega)]
      rw [lcL_pure ds (acc ++ [d]) (S.set n (.lst (acc ++ [d]))) (by rw [List.getElem?_set_self hn]) (by simp; omega) (fun acc' => by rw [List.set_set]; exact hck acc') fun y hy acc' => by rw [List.set_set]; exact hf y (List.mem_cons_of_mem _ hy) acc']
      rw [List.set_set, List.filterMap_cons, hg]
      simp
/-- [.. for x in xs] where nothing is changed -/
theorem lc_pure {own : List Nat} {tg : E} {cond : Env → Store → R Bool} {elt : Env → Store → R D} {it : It} {g : D → Option D} (hl : it.ds.length ≤ 1000000) (hck : ∀ c, ckS it.lk (S ++ [c]) = true)
    (hf : ∀ x ∈ it.ds, ∀ c, lcF own tg cond elt ρ x (S ++ [c]) = .ok (g x) (S ++ [c])) : lcR own tg cond elt ρ it S = .ok (.ref S.length) (S ++ [.lst (it.ds.filterMap g)]) := by
  unfold lcR
  have h := lcL_pure (n := S.length) (ck := ckS it.lk) (f := lcF own tg cond elt ρ) (g := g) it.ds [] (S ++ [Cell.lst []]) (by simp) (by simpa using hl) (fun acc' => by rw [set0]; exact hck _) (fun x hx acc' => by rw [set0]; exact hf x hx _)
  rw [h]
  simp
/-! ### lists of numbers compared; items of a list; all, any -/
theorem toPys_ints {rf : Nat → Option PyData} : ∀ xs : List Int, toPysW rf (xs.map D.int) = some (xs.map PyData.int)
  | [] => rfl
  | x :: xs => by simp only [List.map_cons, toPysW, toPyW, toPys_ints xs]
theorem can_ints : ∀ xs : List Int, PyData.canLayAll0 (xs.map PyData.int) = true
  | [] => by simp [PyData.canLayAll0]
  | x :: xs => by simp [PyData.canLayAll0, PyData.canLay0, can_ints xs]
theorem depth_ints : ∀ xs : List Int, PyData.depthAll (xs.map PyData.int) ≤ 1
  | [] => by simp [PyData.depthAll]
  | x :: xs => by
    have := depth_ints xs
    simp only [List.map_cons, PyData.depthAll, PyData.depth]
    omega
theorem shaped_ints (xs : List Int) : SeqAt.shaped (.list (xs.map PyData.int)) = true := by
  have := depth_ints xs
  simp only [SeqAt.shaped, PyData.canLay0, can_ints, PyData.depth, Bool.true_and]
  exact decide_eq_true (by omega)
theorem shaped_intsT (xs : List Int) : SeqAt.shaped (.tuple (xs.map PyData.int)) = true := by
  have := depth_ints xs
  simp only [SeqAt.shaped, PyData.canLay0, can_ints, PyData.depth, Bool.true_and]
  exact decide_eq_true (by omega)
theorem eqv_ints : ∀ xs ys : List Int, PyData.eqvAll (xs.map PyData.int) (ys.map PyData.int) = decide (xs = ys)
  | [], [] => by simp [PyData.eqvAll]
  | [], y :: ys => by simp [PyData.eqvAll]
  | x :: xs, [] => by simp [PyData.eqvAll]
  | x :: xs, y :: ys => by
    simp only [List.map_cons, PyData.eqvAll, PyData.eqv, eqv_ints xs ys, List.cons.injEq]
    by_cases h : x = y <;> by_cases h2 : xs = ys <;> simp [h, h2]
theorem eq_lists {m n : Nat} {xs ys : List Int} (h1 : S[m]? = some (.lst (xs.map D.int))) (h2 : S[n]? = some (.lst (ys.map D.int))) : eqD S (.ref m) (.ref n) = some (decide (xs = ys)) := by
  have e1 : toPy S (.ref m) = some (.list (xs.map PyData.int)) := by simp [toPy, toPyW, toPyN, h1, toPys_ints]
  have e2 : toPy S (.ref n) = some (.list (ys.map PyData.int)) := by simp [toPy, toPyW, toPyN, h2, toPys_ints]
  unfold eqD
  simp only [e1, e2, shaped_ints, Bool.and_self, if_true, PyData.eqv, eqv_ints]
theorem eq_tups (xs ys : List Int) : eqD S (.tup (xs.map D.int)) (.tup (ys.map D.int)) = some (decide (xs = ys)) := by
  have e1 : toPy S (.tup (xs.map D.int)) = some (.tuple (xs.map PyData.int)) := by simp [toPy, toPyW, toPys_ints]
  have e2 : toPy S (.tup (ys.map D.int)) = some (.tuple (ys.map PyData.int)) := by simp [toPy, toPyW, toPys_ints]
  unfold eqD
  simp only [e1, e2, shaped_intsT, Bool.and_self, if_true, PyData.eqv, eqv_ints]
theorem cR_ne_lists {m n : Nat} {xs ys : List Int} (h1 : S[m]? = some (.lst (xs.map D.int))) (h2 : S[n]? = some (.lst (ys.map D.int))) : cmpR .ne (.ref m) (.ref n) S = .ok (.bl (!decide (xs = ys))) S := by
  simp [cmpR, cmp2, eq_lists h1 h2]
theorem cT_ne_lists {m n : Nat} {xs ys : List Int} (h1 : S[m]? = some (.lst (xs.map D.int))) (h2 : S[n]? = some (.lst (ys.map D.int))) : cmpT .ne (.ref m) (.ref n) S = .ok (!decide (xs = ys)) S := by
  simp [cmpT, cmp2, eq_lists h1 h2]
theorem cT_eq_lists {m n : Nat} {xs ys : List Int} (h1 : S[m]? = some (.lst (xs.map D.int))) (h2 : S[n]? = some (.lst (ys.map D.int))) : cmpT .eq (.ref m) (.ref n) S = .ok (decide (xs = ys)) S := by
  simp [cmpT, cmp2, eq_lists h1 h2]
/-- an item at a place within -/
theorem at_mem {ds : List D} {i : Int} (h0 : 0 ≤ i) (h1 : i < ds.length) : ∃ d ∈ ds, ∀ S, atR ds i S = .ok d S := by
  have h : i.toNat < ds.length := by omega
  exact ⟨ds[i.toNat], List.getElem_mem h, fun S => atR_int h0 (List.getElem?_eq_getElem h)⟩
theorem at_int {xs : List Int} {i : Int} (h0 : 0 ≤ i) (h1 : i < xs.length) : ∃ x ∈ xs, ∀ S, atR (xs.map D.int) i S = .ok (.int x) S := by
  obtain ⟨d, hd, h⟩ := at_mem (ds := xs.map D.int) h0 (by simpa using h1)
  obtain ⟨x, hx, rfl⟩ := List.mem_map.mp hd
  exact ⟨x, hx, h⟩
theorem bls_map : ∀ bs : List Bool, blsD (bs.map D.bl) = some bs
  | [] => rfl
  | b :: bs => by simp [blsD, bls_map bs]
theorem all_lst {n : Nat} {bs : List Bool} (h : S[n]? = some (.lst (bs.map D.bl))) : biD .all [.ref n] S = .ok (.bl (bs.all id)) S := by
  simp [biD, seqD, h, bls_map]
theorem any_lst {n : Nat} {bs : List Bool} (h : S[n]? = some (.lst (bs.map D.bl))) : biD .any [.ref n] S = .ok (.bl (bs.any id)) S := by
  simp [biD, seqD, h, bls_map]
/-- all([f(x) for x in xs]) of a test that changes nothing -/
theorem all_lc {f i : Nat} {src : E} {ds : List D} {p : D → Bool} (hi : i < ρ.length) (hs : itr P src ρ S = .ok ⟨ds, none⟩ S) (hl : ds.length ≤ 1000000) (hp : ∀ d ∈ ds, ∀ S, P f [d] S = .ok (.bl (p d)) S) :
    ev P (.bi .all (.cons (.lc [i] (.var i) src (.bl true) (.call f (.cons (.var i) .nil))) .nil)) ρ S = .ok (.bl (ds.all p)) (S ++ [.lst (ds.map fun d => .bl (p d))]) := by
  have e := lc_pure (ρ := ρ) (S := S) (own := [i]) (tg := .var i) (cond := tst P (.bl true)) (elt := ev P (.call f (.cons (.var i) .nil))) (it := ⟨ds, none⟩) (g := fun d => some (.bl (p d))) hl (fun _ => rfl) (fun x hx c => by
    have hv : varR i ((ρ.set i none).set i (some x)) (S ++ [c]) = .ok x (S ++ [c]) := by
      simp [varR, hi]
    simp only [lcF, asgT, wipeE]
    rw [tst_bl, bind_ok, cond_true, ev_call, evs_cons, ev_var, hv]
    simp only [bind_ok, evs_nil, hp x hx])
  rw [ev_bi, evs_cons, ev_lc, hs, bind_ok, e]
  simp only [bind_ok, evs_nil]
  have e2 : ds.filterMap (fun d => some (D.bl (p d))) = (ds.map p).map D.bl := by
    rw [List.filterMap_eq_map', List.map_map]; rfl
  rw [e2, all_lst (bs := ds.map p) (by simp)]
  simp [List.all_map, Function.comp_def]
theorem sIx_neg {n d k : Nat} (hk : k ≤ n) (h0 : 0 < k) : HT.sIx n d (some (-(k : Int))) = n - k := by
  unfold HT.sIx
  simp only
  split <;> omega
theorem cut_hi {xs : List D} {k : Nat} (hk : k ≤ xs.length) (h0 : 0 < k) : cutD xs none (some (-(k : Int))) = xs.take (xs.length - k) := by
  unfold cutD
  rw [sIx_neg hk h0, show HT.sIx xs.length 0 none = 0 from rfl, Nat.sub_zero, List.drop_zero]
theorem cut_lo {xs : List D} {k : Nat} (hk : k ≤ xs.length) (h0 : 0 < k) : cutD xs (some (-(k : Int))) none = xs.drop (xs.length - k) := by
  unfold cutD
  rw [sIx_neg hk h0, show HT.sIx xs.length xs.length none = xs.length from rfl]
  exact List.take_of_length_le (by simp)
theorem cut_to' (xs : List D) (k : Nat) : cutD xs none (some (k : Int)) = xs.take k := by
  unfold cutD
  have h1 : HT.sIx xs.length 0 none = 0 := rfl
  have h2 : HT.sIx xs.length xs.length (some (k : Int)) = min k xs.length := HT.sIx_nat _ _ k
  rw [h1, h2, Nat.sub_zero, List.drop_zero]
  by_cases hk : k ≤ xs.length
  · rw [Nat.min_eq_left hk]
  · rw [Nat.min_eq_right (by omega), List.take_of_length_le (by omega : xs.length ≤ k), List.take_length]
theorem cut_from (xs : List D) (k : Nat) : cutD xs (some (k : Int)) none = xs.drop k := by
  unfold cutD
  rw [HT.sIx_nat, show HT.sIx xs.length xs.length none = xs.length from rfl]
  by_cases hk : k ≤ xs.length
  · rw [Nat.min_eq_left hk]
    exact List.take_of_length_le (by simp)
  · rw [Nat.min_eq_right (by omega), List.drop_of_length_le (by omega : xs.length ≤ k), List.drop_length]
    simp
theorem cut_mid {xs : List D} {j k : Nat} (hk : j + k ≤ xs.length) (h0 : 0 < k) : cutD xs (some (j : Int)) (some (-(k : Int))) = (xs.drop j).take (xs.length - k - j) := by
  unfold cutD
  rw [HT.sIx_nat, sIx_neg (by omega) h0, Nat.min_eq_left (by omega)]
theorem at_neg {xs : List D} {k : Nat} {d : D} (h0 : 0 < k) (hk : k ≤ xs.length) (h : xs[xs.length - k]? = some d) : atR xs (-(k : Int)) S = .ok d S := by
  refine atR_some ?_
  unfold L2.atI L2.ixN
  rw [if_neg (by omega), if_pos (by omega)]
  show xs[(-(k : Int) + xs.length).toNat]? = some d
  rw [show (-(k : Int) + xs.length).toNat = xs.length - k by omega]
  exact h
end
end Ng

set_option Elab.async false
set_option linter.all false
set_option maxRecDepth 100000
namespace Lw
open PySem L2 Ng

abbrev top (i : Nat) : Stmt := PySem.Challenge.pw_ramet_k60_boxes_and_walls.main.body.getD i (.Pass ⟨0, 0, 0, 0⟩)
/-- apart; slots: 0 first 1 second 2 gap_x 3 gap_y -/
def c_apart : C :=
    (.seq (.asg (.var 2) (.bi .max3 (.cons (.int 0) (.cons (.bin .sub (.ix (.var 0) (.int 0)) (.ix (.var 1) (.int 2))) (.cons (.bin .sub (.ix (.var 1) (.int 0)) (.ix (.var 0) (.int 2))) .nil)))))
    (.seq (.asg (.var 3) (.bi .max3 (.cons (.int 0) (.cons (.bin .sub (.ix (.var 0) (.int 1)) (.ix (.var 1) (.int 3))) (.cons (.bin .sub (.ix (.var 1) (.int 1)) (.ix (.var 0) (.int 3))) .nil)))))
    (.seq (.ret (.cmp .ge (.bin .add (.var 2) (.var 3)) (.int 2)))
    .skip)))
def t_apart : FText := ⟨"apart", top 1, ["first", "second", "gap_x", "gap_y"], ["first", "second"], ⟨2, 4, c_apart⟩⟩
/-- moved_box; slots: 0 box 1 dx 2 dy -/
def c_moved_box : C :=
    (.seq (.ret (.tup (.cons (.bin .add (.ix (.var 0) (.int 0)) (.var 1)) (.cons (.bin .add (.ix (.var 0) (.int 1)) (.var 2)) (.cons (.bin .add (.ix (.var 0) (.int 2)) (.var 1)) (.cons (.bin .add (.ix (.var 0) (.int 3)) (.var 2)) .nil))))))
    .skip)
def t_moved_box : FText := ⟨"moved_box", top 2, ["box", "dx", "dy"], ["box", "dx", "dy"], ⟨3, 3, c_moved_box⟩⟩
/-- is_barrier; slots: 0 state 1 kind -/
def c_is_barrier : C :=
    (.seq (.asg (.var 1) (.ix (.var 0) (.int 0)))
    (.seq (.ite (.cmp .in_ (.var 1) (.tup (.cons (.str "wire") (.cons (.str "not") .nil)))) (.seq (.ret (.cmp .eq (.ix (.var 0) (.int 2)) (.int 0)))
    .skip) .skip)
    (.seq (.ite (.cmp .in_ (.var 1) (.tup (.cons (.str "fork") (.cons (.str "cross") (.cons (.str "and") (.cons (.str "or") .nil)))))) (.seq (.ret (.and (.cmp .eq (.ix (.var 0) (.int 3)) (.int 0)) (.cmp .eq (.ix (.var 0) (.int 4)) (.int 0))))
    .skip) .skip)
    (.seq (.ret (.and (.cmp .eq (.var 1) (.str "join")) (.cmp .eq (.ix (.var 0) (.int 4)) (.int 0))))
    .skip))))
def t_is_barrier : FText := ⟨"is_barrier", top 3, ["state", "kind"], ["state"], ⟨1, 2, c_is_barrier⟩⟩
/-- _law_draws; slots: 0 _law_script 1 _law_many 2 _law_draws_here 3 _law_seed 4 _law_cell 5 _law_number 6 _law_k -/
def b_law_draws_1 : C :=
    (.seq (.ite (.cmp .lt (.bi .len (.cons (.var 2) .nil)) (.var 1)) (.seq (.asg (.var 3) (.bin .mod (.bi .int (.cons (.bin .add (.bin .add (.bin .mul (.var 3) (.int 69621)) (.var 6)) (.int 1)) .nil)) (.int 2147483647)))
    (.seq (.ex (.me .append (.var 2) (.cons (.bin .mod (.bin .fdiv (.bi .int (.cons (.var 3) .nil)) (.int 7)) (.int 65521)) .nil)))
    .skip)) .skip)
    .skip)
def b_law_draws_2 : C :=
    (.seq (.ite (.cmp .gt (.var 5) (.int 0)) (.seq (.ex (.me .append (.var 2) (.cons (.bin .mod (.bi .int (.cons (.var 5) .nil)) (.int 1009)) .nil)))
    (.seq (.asg (.var 5) (.bin .fdiv (.var 5) (.int 1009)))
    .skip)) .skip)
    .skip)
def b_law_draws_3 : C :=
    (.seq (.asg (.var 5) (.bi .abs (.cons (.var 4) .nil)))
    (.seq (.asg (.var 3) (.bin .mod (.bi .int (.cons (.bin .add (.bin .add (.bin .mul (.var 3) (.int 48271)) (.var 5)) (.int 11)) .nil)) (.int 2147483647)))
    (.seq (.ite (.cmp .ge (.var 5) (.bin .pow (.int 10) (.int 18))) (.seq (.for (.var 6) (.rng (.cons (.int 60) .nil)) b_law_draws_2)
    .skip) (.seq (.ex (.me .append (.var 2) (.cons (.bin .mod (.bin .fdiv (.bi .int (.cons (.bin .add (.bin .mul (.var 3) (.int 16807)) (.int 5)) .nil)) (.int 3)) (.int 65521)) .nil)))
    .skip))
    .skip)))
def c_law_draws : C :=
    (.seq (.asg (.var 2) (.lst .nil))
    (.seq (.asg (.var 3) (.int 7))
    (.seq (.for (.var 4) (.slc (.var 0) .nil (.int 63)) b_law_draws_3)
    (.seq (.for (.var 6) (.rng (.cons (.var 1) .nil)) b_law_draws_1)
    (.seq (.ret (.slc (.var 2) .nil (.var 1)))
    .skip)))))
def t_law_draws : FText := ⟨"_law_draws", top 5, ["_law_script", "_law_many", "_law_draws_here", "_law_seed", "_law_cell", "_law_number", "_law_k"], ["_law_script", "_law_many"], ⟨2, 7, c_law_draws⟩⟩
/-- _law_near; slots: 0 _law_first 1 _law_second 2 _law_x 3 _law_y 4 _law_one -/
def b_law_near_1 : C :=
    (.seq (.ite (.and (.chain .le .le (.ix (.var 1) (.int 0)) (.ix (.var 4) (.int 0)) (.ix (.var 1) (.int 2))) (.chain .le .le (.ix (.var 1) (.int 1)) (.ix (.var 4) (.int 1)) (.ix (.var 1) (.int 3)))) (.seq (.ret (.bl true))
    .skip) .skip)
    .skip)
def b_law_near_2 : C :=
    (.seq (.for (.var 4) (.lst (.cons (.tup (.cons (.var 2) (.cons (.var 3) .nil))) (.cons (.tup (.cons (.bin .add (.var 2) (.int 1)) (.cons (.var 3) .nil))) (.cons (.tup (.cons (.bin .sub (.var 2) (.int 1)) (.cons (.var 3) .nil))) (.cons (.tup (.cons (.var 2) (.cons (.bin .add (.var 3) (.int 1)) .nil))) (.cons (.tup (.cons (.var 2) (.cons (.bin .sub (.var 3) (.int 1)) .nil))) .nil)))))) b_law_near_1)
    .skip)
def b_law_near_3 : C :=
    (.seq (.for (.var 3) (.rng (.cons (.ix (.var 0) (.int 1)) (.cons (.bin .add (.ix (.var 0) (.int 3)) (.int 1)) .nil))) b_law_near_2)
    .skip)
def c_law_near : C :=
    (.seq (.for (.var 2) (.rng (.cons (.ix (.var 0) (.int 0)) (.cons (.bin .add (.ix (.var 0) (.int 2)) (.int 1)) .nil))) b_law_near_3)
    (.seq (.ret (.bl false))
    .skip))
def t_law_near : FText := ⟨"_law_near", top 6, ["_law_first", "_law_second", "_law_x", "_law_y", "_law_one"], ["_law_first", "_law_second"], ⟨2, 5, c_law_near⟩⟩
/-- _law_is; slots: 0 _law_value 1 _law_due -/
def c_law_is : C :=
    (.seq (.ret (.and (.isi (.var 0) [.bool] false) (.cmp .eq (.var 0) (.var 1))))
    .skip)
def t_law_is : FText := ⟨"_law_is", top 7, ["_law_value", "_law_due"], ["_law_value", "_law_due"], ⟨2, 2, c_law_is⟩⟩
/-- _law_states; slots: 0 _law_draws_here 1 _law_d 2 _law_side 3 _law_symbol 4 _law_other 5 _law_low 6 _law_rows -/
def c_law_states : C :=
    (.seq (.asg (.tup (.cons (.var 1) (.cons (.var 2) .nil))) (.tup (.cons (.bin .mod (.bi .int (.cons (.ix (.var 0) (.int 0)) .nil)) (.int 4)) (.cons (.bin .mod (.bi .int (.cons (.ix (.var 0) (.int 1)) .nil)) (.int 2)) .nil))))
    (.seq (.asg (.var 3) (.ix (.lst (.cons (.int 0) (.cons (.int 0) (.cons (.int 8) (.cons (.int 9) (.cons (.int 6) (.cons (.int 96) .nil))))))) (.bin .mod (.bi .int (.cons (.ix (.var 0) (.int 2)) .nil)) (.int 6))))
    (.seq (.asg (.var 4) (.ix (.lst (.cons (.int 0) (.cons (.int 0) (.cons (.int 1) (.cons (.int 2) (.cons (.int 8) .nil)))))) (.bin .mod (.bi .int (.cons (.ix (.var 0) (.int 3)) .nil)) (.int 5))))
    (.seq (.asg (.var 5) (.ix (.lst (.cons (.int 0) (.cons (.int 1) (.cons (.int 2) .nil)))) (.bin .mod (.bi .int (.cons (.ix (.var 0) (.int 3)) .nil)) (.int 3))))
    (.seq (.asg (.var 6) (.lst (.cons (.tup (.cons (.tup (.cons (.str "wire") (.cons (.var 1) (.cons (.var 3) .nil)))) (.cons (.cmp .eq (.var 3) (.int 0)) .nil))) (.cons (.tup (.cons (.tup (.cons (.str "not") (.cons (.var 1) (.cons (.var 3) .nil)))) (.cons (.cmp .eq (.var 3) (.int 0)) .nil))) .nil))))
    (.seq (.ex (.me .append (.var 6) (.cons (.tup (.cons (.tup (.cons (.str "fork") (.cons (.var 1) (.cons (.var 2) (.cons (.var 3) (.cons (.bin .mul (.var 5) (.bi .int (.cons (.cmp .gt (.var 3) (.int 0)) .nil))) .nil)))))) (.cons (.cmp .eq (.var 3) (.int 0)) .nil))) .nil)))
    (.seq (.ex (.me .append (.var 6) (.cons (.tup (.cons (.tup (.cons (.str "cross") (.cons (.var 1) (.cons (.var 2) (.cons (.var 3) (.cons (.var 4) .nil)))))) (.cons (.and (.cmp .eq (.var 3) (.int 0)) (.cmp .eq (.var 4) (.int 0))) .nil))) .nil)))
    (.seq (.ex (.me .append (.var 6) (.cons (.tup (.cons (.tup (.cons (.str "and") (.cons (.var 1) (.cons (.var 2) (.cons (.var 5) (.cons (.bin .mod (.bi .int (.cons (.ix (.var 0) (.int 4)) .nil)) (.int 3)) .nil)))))) (.cons (.and (.cmp .eq (.var 5) (.int 0)) (.cmp .eq (.bin .mod (.bi .int (.cons (.ix (.var 0) (.int 4)) .nil)) (.int 3)) (.int 0))) .nil))) .nil)))
    (.seq (.ex (.me .append (.var 6) (.cons (.tup (.cons (.tup (.cons (.str "or") (.cons (.var 1) (.cons (.var 2) (.cons (.bin .mod (.bi .int (.cons (.ix (.var 0) (.int 4)) .nil)) (.int 3)) (.cons (.var 5) .nil)))))) (.cons (.and (.cmp .eq (.var 5) (.int 0)) (.cmp .eq (.bin .mod (.bi .int (.cons (.ix (.var 0) (.int 4)) .nil)) (.int 3)) (.int 0))) .nil))) .nil)))
    (.seq (.ex (.me .append (.var 6) (.cons (.tup (.cons (.tup (.cons (.str "join") (.cons (.var 1) (.cons (.var 2) (.cons (.bin .mod (.bi .int (.cons (.ix (.var 0) (.int 5)) .nil)) (.int 2)) (.cons (.var 3) .nil)))))) (.cons (.cmp .eq (.var 3) (.int 0)) .nil))) .nil)))
    (.seq (.ex (.me .append (.var 6) (.cons (.tup (.cons (.tup (.cons (.str "reader") (.cons (.var 1) (.cons (.var 2) (.cons (.int 0) (.cons (.int 1) (.cons (.int 0) (.cons (.int 0) .nil)))))))) (.cons (.bl false) .nil))) .nil)))
    (.seq (.ex (.me .append (.var 6) (.cons (.tup (.cons (.tup (.cons (.str "arm") (.cons (.var 1) (.cons (.bin .mod (.bi .int (.cons (.ix (.var 0) (.int 5)) .nil)) (.int 2)) (.cons (.int 0) (.cons (.int 0) .nil)))))) (.cons (.bl false) .nil))) .nil)))
    (.seq (.ex (.me .append (.var 6) (.cons (.tup (.cons (.tup (.cons (.str "head") (.cons (.var 1) (.cons (.int 1) (.cons (.int 0) (.cons (.int 0) .nil)))))) (.cons (.bl false) .nil))) .nil)))
    (.seq (.ret (.bin .add (.var 6) (.lst (.cons (.tup (.cons (.tup (.cons (.str "stretch") (.cons (.var 1) (.cons (.int 1) .nil)))) (.cons (.bl false) .nil))) (.cons (.tup (.cons (.tup (.cons (.str "port") (.cons (.var 1) (.cons (.int 0) (.cons (.int 0) .nil))))) (.cons (.bl false) .nil))) (.cons (.tup (.cons (.tup (.cons (.str "regrow") (.cons (.var 1) .nil))) (.cons (.bl false) .nil))) (.cons (.tup (.cons (.tup (.cons (.str "fade") .nil)) (.cons (.bl false) .nil))) .nil)))))))
    .skip))))))))))))))
def t_law_states : FText := ⟨"_law_states", top 8, ["_law_draws_here", "_law_d", "_law_side", "_law_symbol", "_law_other", "_law_low", "_law_rows"], ["_law_draws_here"], ⟨1, 7, c_law_states⟩⟩
/-- law; slots: 0 _law_script 1 _law_draws_here 2 _law_k 3 _law_at 4 _law_x 5 _law_y 6 _law_first 7 _law_second 8 _law_dx 9 _law_dy 10 _law_due 11 _law_moved 12 _law_box 13 _law_state -/
def b_law_1 : C :=
    (.seq (.ite (.not (.call 5 (.cons (.call 2 (.cons (.var 13) .nil)) (.cons (.var 10) .nil)))) (.seq (.ret (.bl false))
    .skip) .skip)
    .skip)
def b_law_2 : C :=
    (.seq (.asg (.var 3) (.bin .mul (.int 8) (.var 2)))
    (.seq (.asg (.tup (.cons (.var 4) (.cons (.var 5) .nil))) (.tup (.cons (.bin .mod (.bi .int (.cons (.ix (.var 1) (.var 3)) .nil)) (.int 7)) (.cons (.bin .mod (.bi .int (.cons (.ix (.var 1) (.bin .add (.var 3) (.int 1))) .nil)) (.int 7)) .nil))))
    (.seq (.asg (.var 6) (.tup (.cons (.int 0) (.cons (.int 0) (.cons (.bin .mod (.bi .int (.cons (.ix (.var 1) (.bin .add (.var 3) (.int 2))) .nil)) (.int 5)) (.cons (.bin .mod (.bi .int (.cons (.ix (.var 1) (.bin .add (.var 3) (.int 3))) .nil)) (.int 5)) .nil))))))
    (.seq (.asg (.var 7) (.tup (.cons (.var 4) (.cons (.var 5) (.cons (.bin .add (.var 4) (.bin .mod (.bi .int (.cons (.ix (.var 1) (.bin .add (.var 3) (.int 4))) .nil)) (.int 4))) (.cons (.bin .add (.var 5) (.bin .mod (.bi .int (.cons (.ix (.var 1) (.bin .add (.var 3) (.int 5))) .nil)) (.int 4))) .nil))))))
    (.seq (.asg (.tup (.cons (.var 8) (.cons (.var 9) .nil))) (.tup (.cons (.ix (.lst (.cons (.int 0) (.cons (.int 1000) (.cons (.neg (.int 70000)) .nil)))) (.bin .mod (.bi .int (.cons (.ix (.var 1) (.bin .add (.var 3) (.int 6))) .nil)) (.int 3))) (.cons (.bin .mod (.neg (.bi .int (.cons (.ix (.var 1) (.bin .add (.var 3) (.int 7))) .nil))) (.int 50)) .nil))))
    (.seq (.asg (.var 10) (.not (.call 4 (.cons (.var 6) (.cons (.var 7) .nil)))))
    (.seq (.asg (.var 11) (.lc [12] (.var 12) (.lst (.cons (.var 6) (.cons (.var 7) .nil))) (.bl true) (.tup (.cons (.bin .add (.ix (.var 12) (.int 0)) (.var 8)) (.cons (.bin .add (.ix (.var 12) (.int 1)) (.var 9)) (.cons (.bin .add (.ix (.var 12) (.int 2)) (.var 8)) (.cons (.bin .add (.ix (.var 12) (.int 3)) (.var 9)) .nil)))))))
    (.seq (.ite (.or (.cmp .ne (.call 1 (.cons (.var 6) (.cons (.var 8) (.cons (.var 9) .nil)))) (.ix (.var 11) (.int 0))) (.cmp .ne (.call 1 (.cons (.var 7) (.cons (.var 8) (.cons (.var 9) .nil)))) (.ix (.var 11) (.int 1)))) (.seq (.ret (.bl false))
    .skip) .skip)
    (.seq (.ite (.or (.not (.call 5 (.cons (.call 0 (.cons (.var 6) (.cons (.var 7) .nil))) (.cons (.var 10) .nil)))) (.not (.call 5 (.cons (.call 0 (.cons (.var 7) (.cons (.var 6) .nil))) (.cons (.var 10) .nil))))) (.seq (.ret (.bl false))
    .skip) .skip)
    (.seq (.ite (.or (.not (.call 5 (.cons (.call 0 (.cons (.ix (.var 11) (.int 0)) (.cons (.ix (.var 11) (.int 1)) .nil))) (.cons (.var 10) .nil)))) (.not (.call 5 (.cons (.call 0 (.cons (.ix (.var 11) (.int 1)) (.cons (.var 6) .nil))) (.cons (.not (.call 4 (.cons (.ix (.var 11) (.int 1)) (.cons (.var 6) .nil)))) .nil))))) (.seq (.ret (.bl false))
    .skip) .skip)
    (.seq (.ite (.call 5 (.cons (.call 0 (.cons (.var 6) (.cons (.var 6) .nil))) (.cons (.bl true) .nil))) (.seq (.ret (.bl false))
    .skip) .skip)
    .skip)))))))))))
def c_law : C :=
    (.seq (.asg (.var 1) (.call 3 (.cons (.var 0) (.cons (.int 40) .nil))))
    (.seq (.for (.var 2) (.rng (.cons (.int 3) .nil)) b_law_2)
    (.seq (.for (.tup (.cons (.var 13) (.cons (.var 10) .nil))) (.call 6 (.cons (.slc (.var 1) (.int 24) .nil) .nil)) b_law_1)
    (.seq (.ret (.bl true))
    .skip))))
def t_law : FText := ⟨"law", top 9, ["_law_script", "_law_draws_here", "_law_k", "_law_at", "_law_x", "_law_y", "_law_first", "_law_second", "_law_dx", "_law_dy", "_law_due", "_law_moved", "_law_box", "_law_state"], ["_law_script"], ⟨1, 14, c_law⟩⟩
def Ts : List FText := [t_apart, t_moved_box, t_is_barrier, t_law_draws, t_law_near, t_law_is, t_law_states, t_law]
def glbs : List (Str × D) := []
def blts : List Str := ["abs", "bool", "int", "isinstance", "len", "max", "range"]
def Fs : List Fn := Ts.map (·.fn)
end Lw

set_option Elab.async false
set_option linter.all false
set_option maxRecDepth 100000
namespace Lw
open PySem L2 Ng
section
variable {P : Nat → List D → Store → R D}
/-- the list of draws in its cell -/
abbrev dl (ds : List Int) : Cell := .lst (ds.map D.int)
theorem draws2 {s m a c k : Option D} {n : Nat} {num : Int} {S : Store} {ds : List Int} (h : S[n]? = some (dl ds)) (hl : ds.length < 1000000) :
    run P b_law_draws_2 [s, m, some (.ref n), a, c, some (.int num), k] S = if 0 < num then .nx [s, m, some (.ref n), a, c, some (.int (num / 1009)), k] (S.set n (dl (ds ++ [num % 1009]))) else .nx [s, m, some (.ref n), a, c, some (.int num), k] S := by
  have hl2 : ds.length < linesz := by unfold linesz; omega
  by_cases hn : 0 < num
  · simp [b_law_draws_2, varR, hn, h, hl2, dl]
  · simp [b_law_draws_2, varR, hn]
/-- what is known of draws -/
def DrOk (ds : List Int) : Prop := ∀ d ∈ ds, 0 ≤ d ∧ d < 65537
theorem DrOk.snoc {ds : List Int} {d : Int} (h : DrOk ds) (h0 : 0 ≤ d) (h1 : d < 65537) : DrOk (ds ++ [d]) := by
  intro x hx
  rcases List.mem_append.mp hx with hx | hx
  · exact h x hx
  · simp at hx; subst hx; exact ⟨h0, h1⟩
/-- one cell of the script -/
theorem draws3 {r n m : Nat} {many sd c : Int} {num k : Option D} {S : Store} {ds : List Int} (h : S[n]? = some (dl ds)) (hl : ds.length < 900000) (hd : DrOk ds) :
    ∃ num' k' ds' sd', run P b_law_draws_3 [some (.ref r), some (.int many), some (.ref n), some (.int sd), some (.int c), num, k] S = .nx [some (.ref r), some (.int many), some (.ref n), some (.int sd'), some (.int c), num', k'] (S.set n (dl ds')) ∧ DrOk ds' ∧ ds'.length ≤ ds.length + 60 := by
  have hn := (List.getElem?_eq_some_iff.mp h).1
  by_cases hb : (if c < 0 then -c else c) ≥ 1000000000000000000
  · -- digit by digit
    obtain ⟨ρ', S', e, num', k', ds', rfl, rfl, h1, h2⟩ := for_inv (ck := ckS none) (f := fun x ρ S => run P b_law_draws_2 (ρ.set 6 (some x)) S) (ds := rngD 0 60) (ρ := [some (.ref r), some (.int many), some (.ref n), some (.int ((sd * 48271 + (if c < 0 then -c else c) + 11) % 2147483647)), some (.int c), some (.int (if c < 0 then -c else c)), k]) (S := S)
      (fun j ρ' S' => ∃ num' k' ds', ρ' = [some (.ref r), some (.int many), some (.ref n), some (.int ((sd * 48271 + (if c < 0 then -c else c) + 11) % 2147483647)), some (.int c), some (.int num'), k'] ∧ S' = S.set n (dl ds') ∧ DrOk ds' ∧ ds'.length ≤ ds.length + j)
      ⟨_, k, ds, rfl, (set_same h).symm, hd, Nat.le_refl _⟩ (fun _ _ _ _ => rfl) (fun j x ρ1 S1 hj ⟨num', k', ds', e1, e2, h1, h2⟩ => by
        subst e1 e2
        have hj2 := (rng_at hj).1
        have hg : (S.set n (dl ds'))[n]? = some (dl ds') := by rw [List.getElem?_set_self hn]
        simp only [List.set_cons_succ, List.set_cons_zero]
        rw [draws2 hg (by omega)]
        by_cases hp : 0 < num'
        · rw [if_pos hp]
          exact ⟨_, _, rfl, _, _, _, rfl, by rw [List.set_set], h1.snoc (Int.emod_nonneg _ (by decide)) (by have := Int.emod_lt_of_pos num' (show (0 : Int) < 1009 by decide); omega), by simp; omega⟩
        · rw [if_neg hp]
          exact ⟨_, _, rfl, _, _, _, rfl, rfl, h1, by omega⟩)
    refine ⟨some (.int num'), k', ds', (sd * 48271 + (if c < 0 then -c else c) + 11) % 2147483647, ?_, h1, by simpa using h2⟩
    have hb2 : (1000000000000000000 : Int) ≤ (if c < 0 then -c else c) := hb
    simp [b_law_draws_3, varR, hb2]
    rw [e]
    simp [varR]
  · -- mixed
    have hb2 : ¬ (1000000000000000000 : Int) ≤ (if c < 0 then -c else c) := hb
    have hl2 : ds.length < linesz := by unfold linesz; omega
    generalize hx : (if c < 0 then -c else c) = x at hb2
    refine ⟨some (.int x), k, ds ++ [((sd * 48271 + x + 11) % 2147483647 * 16807 + 5) / 3 % 65521], (sd * 48271 + x + 11) % 2147483647, ?_, ?_, by simp⟩
    · simp [b_law_draws_3, varR, hb2, hx, h, hl2, dl]
    · refine hd.snoc (Int.emod_nonneg _ (by decide)) ?_
      have := Int.emod_lt_of_pos (((sd * 48271 + x + 11) % 2147483647 * 16807 + 5) / 3) (show (0 : Int) < 65521 by decide)
      omega
theorem draws1 {r n : Nat} {many sd : Int} {c num : Option D} {j : Int} {S : Store} {ds : List Int} (h : S[n]? = some (dl ds)) (hl : ds.length < 900000) (hd : DrOk ds) :
    ∃ ds' sd', run P b_law_draws_1 [some (.ref r), some (.int many), some (.ref n), some (.int sd), c, num, some (.int j)] S = .nx [some (.ref r), some (.int many), some (.ref n), some (.int sd'), c, num, some (.int j)] (S.set n (dl ds')) ∧ DrOk ds' ∧ ds'.length = (if (ds.length : Int) < many then ds.length + 1 else ds.length) := by
  have hl2 : ds.length < linesz := by unfold linesz; omega
  by_cases hm : (ds.length : Int) < many
  · refine ⟨ds ++ [(sd * 69621 + j + 1) % 2147483647 / 7 % 65521], (sd * 69621 + j + 1) % 2147483647, ?_, hd.snoc (Int.emod_nonneg _ (by decide)) ?_, by rw [if_pos hm]; simp⟩
    · simp [b_law_draws_1, varR, h, dl, hm, hl2]
    · have := Int.emod_lt_of_pos ((sd * 69621 + j + 1) % 2147483647 / 7) (show (0 : Int) < 65521 by decide)
      omega
  · refine ⟨ds, sd, ?_, hd, by rw [if_neg hm]⟩
    rw [set_same h]
    simp [b_law_draws_1, varR, h, dl, hm]
theorem cut_all {α : Type} (xs : List D) (h : xs.length ≤ 63) : cutD xs none (some 63) = xs := by
  rw [show (63 : Int) = ((63 : Nat) : Int) from rfl, cut_to', List.take_of_length_le h]
/-- the draws of a script -/
theorem draws_ok {r : Nat} {S : Store} {ns : List Int} (hS : S[r]? = some (.ro (ns.map D.int))) (hn : ns.length ≤ 63) (many : Nat) (hm : many ≤ 1000) :
    ∃ ds : List Int, ds.length = many ∧ DrOk ds ∧ finO S (run P c_law_draws [some (.ref r), some (.int many), none, none, none, none, none] S) = .ok (.ref S.length) (S ++ [dl ds]) := by
  -- the script's cells
  obtain ⟨ρ1, S1, e1, ds1, sd1, c1, num1, k1, rfl, rfl, h1, h2⟩ := for_inv (ck := ckS (some (S.length + 1, dl ns))) (f := fun x ρ S => run P b_law_draws_3 (ρ.set 4 (some x)) S) (ds := ns.map D.int)
    (ρ := [some (.ref r), some (.int many), some (.ref S.length), some (.int 7), none, none, none]) (S := S ++ [dl [], dl ns])
    (fun j ρ' S' => ∃ ds sd c num k, ρ' = [some (.ref r), some (.int many), some (.ref S.length), some (.int sd), c, num, k] ∧ S' = S ++ [dl ds, dl ns] ∧ DrOk ds ∧ ds.length ≤ 60 * j ∧ j ≤ 63)
    ⟨[], 7, none, none, none, rfl, rfl, fun _ h => by simp at h, Nat.le_refl _, by decide⟩ (fun j ρ' S' ⟨ds, sd, c, num, k, e1, e2, _⟩ => by subst e2; simp [ckS])
    (fun j x ρ' S' hj ⟨ds, sd, c, num, k, e1, e2, h1, h2, h3⟩ => by
      subst e1 e2
      rw [List.getElem?_map] at hj
      cases hjn : ns[j]? with
      | none => rw [hjn] at hj; cases hj
      | some z =>
        rw [hjn] at hj
        cases hj
        have hj2 := (List.getElem?_eq_some_iff.mp hjn).1
        obtain ⟨num', k', ds', sd', e, h4, h5⟩ := draws3 (P := P) (r := r) (n := S.length) (m := 0) (many := many) (sd := sd) (c := z) (num := num) (k := k) (S := S ++ [dl ds, dl ns]) (ds := ds) (by simp) (by omega) h1
        refine ⟨_, _, e, ds', sd', some (.int z), num', k', by simp, by simp, h4, by omega, by omega⟩)
  rw [List.length_map] at h2
  -- filled up
  obtain ⟨ρ2, S2, e2, ds2, sd2, k2, rfl, rfl, h3, h4⟩ := for_inv (ck := ckS none) (f := fun x ρ S => run P b_law_draws_1 (ρ.set 6 (some x)) S) (ds := rngD 0 many)
    (ρ := [some (.ref r), some (.int many), some (.ref S.length), some (.int sd1), c1, num1, k1]) (S := S ++ [dl ds1, dl ns])
    (fun j ρ' S' => ∃ ds sd k, ρ' = [some (.ref r), some (.int many), some (.ref S.length), some (.int sd), c1, num1, k] ∧ S' = S ++ [dl ds, dl ns] ∧ DrOk ds ∧ ds.length ≤ 60 * 63 + j ∧ min many (ds1.length + j) ≤ ds.length ∧ j ≤ many)
    ⟨ds1, sd1, k1, rfl, rfl, h1, by omega, by omega, Nat.zero_le _⟩ (fun _ _ _ _ => rfl)
    (fun j x ρ' S' hj ⟨ds, sd, k, e1, e2, h1, h2, h3, h4⟩ => by
      subst e1 e2
      obtain ⟨hj2, rfl⟩ := rng_at hj
      obtain ⟨ds', sd', e, h5, h6⟩ := draws1 (P := P) (r := r) (n := S.length) (many := many) (sd := sd) (c := c1) (num := num1) (j := 0 + (j : Int)) (S := S ++ [dl ds, dl ns]) (ds := ds) (by simp) (by omega) h1
      refine ⟨_, _, e, ds', sd', some (.int (0 + (j : Int))), rfl, by simp, h5, ?_, ?_, by omega⟩
      · split at h6 <;> omega
      · split at h6 <;> omega)
  rw [rng_len] at h4
  refine ⟨ds2.take many, by rw [List.length_take]; omega, fun d hd => h3 d (List.mem_of_mem_take hd), ?_⟩
  have hr : r < S.length := (List.getElem?_eq_some_iff.mp hS).1
  have hcut := cut_all (α := Int) (ns.map D.int) (by simpa using hn)
  have hS1 : (S ++ [dl []])[r]? = some (.ro (ns.map D.int)) := get_lo hS
  have hr1 : (-4611686018427387904 : Int) ≤ many ∧ (many : Int) < 4611686018427387904 := by omega
  simp only [dl, List.map_nil] at hS1 e1 e2
  simp [c_law_draws, varR, hS1, hcut]
  rw [e1]
  simp [varR, hr1]
  rw [e2]
  simp [varR, cut_to']
  rw [← List.map_take]
  have hf := fin_list (S := S) (a := [dl ds2, dl ns]) (c := []) (ds := (ds2.take many).map D.int) (refsL_ints _)
  simpa [dl] using hf
end
end Lw

set_option Elab.async false
set_option linter.all false
set_option maxRecDepth 100000
namespace Lw
open PySem L2 Ng
theorem call_apart (k : Nat) (a b : D) (S : Store) : callN Fs (k + 1) 0 [a, b] S = finO S (run (callN Fs k) c_apart [some a, some b, none, none] S) := rfl
theorem call_moved (k : Nat) (a b c : D) (S : Store) : callN Fs (k + 1) 1 [a, b, c] S = finO S (run (callN Fs k) c_moved_box [some a, some b, some c] S) := rfl
theorem call_barrier (k : Nat) (a : D) (S : Store) : callN Fs (k + 1) 2 [a] S = finO S (run (callN Fs k) c_is_barrier [some a, none] S) := rfl
theorem call_draws (k : Nat) (a b : D) (S : Store) : callN Fs (k + 1) 3 [a, b] S = finO S (run (callN Fs k) c_law_draws [some a, some b, none, none, none, none, none] S) := rfl
theorem call_near (k : Nat) (a b : D) (S : Store) : callN Fs (k + 1) 4 [a, b] S = finO S (run (callN Fs k) c_law_near [some a, some b, none, none, none] S) := rfl
theorem call_is (k : Nat) (a b : D) (S : Store) : callN Fs (k + 1) 5 [a, b] S = finO S (run (callN Fs k) c_law_is [some a, some b] S) := rfl
theorem call_states (k : Nat) (a : D) (S : Store) : callN Fs (k + 1) 6 [a] S = finO S (run (callN Fs k) c_law_states [some a, none, none, none, none, none, none] S) := rfl
theorem call_law (k : Nat) (a : D) (S : Store) : callN Fs (k + 1) 7 [a] S = finO S (run (callN Fs k) c_law [some a, none, none, none, none, none, none, none, none, none, none, none, none, none] S) := rfl
abbrev bx (a b c d : Int) : D := .tup [.int a, .int b, .int c, .int d]
section
variable {P : Nat → List D → Store → R D} {k : Nat} {S : Store} {a0 a1 a2 a3 b0 b1 b2 b3 : Int}
def inB (b0 b1 b2 b3 u v : Int) : Bool := decide (b0 ≤ u) && (decide (u ≤ b2) && (decide (b1 ≤ v) && decide (v ≤ b3)))
def inD (b0 b1 b2 b3 : Int) : D → Bool
  | .tup [.int u, .int v] => inB b0 b1 b2 b3 u v
  | _ => false
theorem near1 {a x y : Option D} {u v : Int} : run P b_law_near_1 [a, some (bx b0 b1 b2 b3), x, y, some (.tup [.int u, .int v])] S =
    bif inB b0 b1 b2 b3 u v then .ret (.bl true) S else .nx [a, some (bx b0 b1 b2 b3), x, y, some (.tup [.int u, .int v])] S := by
  by_cases h1 : b0 ≤ u <;> by_cases h2 : u ≤ b2 <;> by_cases h3 : b1 ≤ v <;> by_cases h4 : v ≤ b3 <;>
    simp [b_law_near_1, varR, chainT, cmp2, cmpT, inB, h1, h2, h3, h4]
def five (x y : Int) : List D := [.tup [.int x, .int y], .tup [.int (x + 1), .int y], .tup [.int (x - 1), .int y], .tup [.int x, .int (y + 1)], .tup [.int x, .int (y - 1)]]
/-- what stands while the loops go on -/
def Go (A B : D) (S : Store) (ρ : Ng.Env) (S' : Store) : Prop := ∃ x y z l, ρ = [some A, some B, x, y, z] ∧ S' = S ++ l
theorem near2 {A : D} {z : Option D} {x y : Int} {l : List Cell} : 
    let p := (five x y).any (inD b0 b1 b2 b3)
    (p = false ∧ ∃ ρ' S', run P b_law_near_2 [some A, some (bx b0 b1 b2 b3), some (.int x), some (.int y), z] (S ++ l) = .nx ρ' S' ∧ ∃ z l, ρ' = [some A, some (bx b0 b1 b2 b3), some (.int x), some (.int y), z] ∧ S' = S ++ l) ∨
    (p = true ∧ ∃ S', run P b_law_near_2 [some A, some (bx b0 b1 b2 b3), some (.int x), some (.int y), z] (S ++ l) = .ret (.bl true) S' ∧ ∃ l, S' = S ++ l) := by
  intro p
  have l5 : 5 ≤ linesz := by decide
  have l2 : 2 ≤ linesz := by decide
  have := for_ret (ck := ckS (some (S.length + l.length, .lst (five x y)))) (f := fun d ρ S => run P b_law_near_1 (ρ.set 4 (some d)) S) (r := .bl true) (inD b0 b1 b2 b3)
    (fun ρ' S' => ∃ z, ρ' = [some A, some (bx b0 b1 b2 b3), some (.int x), some (.int y), z] ∧ S' = S ++ l ++ [.lst (five x y)]) (fun S' => S' = S ++ l ++ [.lst (five x y)]) (five x y)
    [some A, some (bx b0 b1 b2 b3), some (.int x), some (.int y), z] (S ++ l ++ [.lst (five x y)]) ⟨z, rfl, rfl⟩ (fun ρ S1 ⟨z, e1, e2⟩ => by subst e2; simp [ckS])
    (fun d hd ρ S1 ⟨z, e1, e2⟩ => by
      subst e1 e2
      have : ∃ u v, d = .tup [.int u, .int v] := by
        simp [five] at hd
        rcases hd with rfl | rfl | rfl | rfl | rfl <;> exact ⟨_, _, rfl⟩
      obtain ⟨u, v, rfl⟩ := this
      simp only [List.set_cons_succ, List.set_cons_zero, near1, inD]
      cases inB b0 b1 b2 b3 u v with
      | false => exact .inl ⟨rfl, _, _, rfl, _, rfl, rfl⟩
      | true => exact .inr ⟨rfl, _, rfl, rfl⟩)
  have e : run P b_law_near_2 [some A, some (bx b0 b1 b2 b3), some (.int x), some (.int y), z] (S ++ l) = (forL (ckS (some (S.length + l.length, .lst (five x y)))) (fun d ρ S => run P b_law_near_1 (ρ.set 4 (some d)) S) (five x y)
      [some A, some (bx b0 b1 b2 b3), some (.int x), some (.int y), z] (S ++ l ++ [.lst (five x y)])).seq (run P .skip) := by
    simp [b_law_near_2, varR, l5, l2, five]
  rcases this with ⟨h1, ρ', S', e1, z', rfl, rfl⟩ | ⟨h1, S', e1, rfl⟩
  · refine .inl ⟨h1, _, _, by rw [e, e1]; rfl, z', _, rfl, by rw [List.append_assoc]⟩
  · refine .inr ⟨h1, _, by rw [e, e1]; rfl, _, by rw [List.append_assoc]⟩
def rowB (b0 b1 b2 b3 : Int) (x : Int) : D → Bool
  | .int y => (five x y).any (inD b0 b1 b2 b3)
  | _ => false
def colB (b0 b1 b2 b3 : Int) (a1 a3 : Int) : D → Bool
  | .int x => (rngD a1 (a3 + 1 - a1).toNat).any (rowB b0 b1 b2 b3 x)
  | _ => false
/-- a bound for the boxes -/
def Bnd (i : Int) : Prop := -1000000 ≤ i ∧ i ≤ 1000000
theorem near3 {y z : Option D} {x : Int} {l : List Cell} (h1 : Bnd a1) (h3 : Bnd a3) :
    ((colB b0 b1 b2 b3 a1 a3 (.int x)) = false ∧ ∃ ρ' S', run P b_law_near_3 [some (bx a0 a1 a2 a3), some (bx b0 b1 b2 b3), some (.int x), y, z] (S ++ l) = .nx ρ' S' ∧ ∃ y z l, ρ' = [some (bx a0 a1 a2 a3), some (bx b0 b1 b2 b3), some (.int x), y, z] ∧ S' = S ++ l) ∨
    ((colB b0 b1 b2 b3 a1 a3 (.int x)) = true ∧ ∃ S', run P b_law_near_3 [some (bx a0 a1 a2 a3), some (bx b0 b1 b2 b3), some (.int x), y, z] (S ++ l) = .ret (.bl true) S' ∧ ∃ l, S' = S ++ l) := by
  have := for_ret (ck := ckS none) (f := fun d ρ S => run P b_law_near_2 (ρ.set 3 (some d)) S) (r := .bl true) (rowB b0 b1 b2 b3 x)
    (fun ρ' S' => ∃ y z l, ρ' = [some (bx a0 a1 a2 a3), some (bx b0 b1 b2 b3), some (.int x), y, z] ∧ S' = S ++ l) (fun S' => ∃ l, S' = S ++ l) (rngD a1 (a3 + 1 - a1).toNat)
    [some (bx a0 a1 a2 a3), some (bx b0 b1 b2 b3), some (.int x), y, z] (S ++ l) ⟨y, z, l, rfl, rfl⟩ (fun _ _ _ => rfl)
    (fun d hd ρ S1 ⟨y, z, l, e1, e2⟩ => by
      subst e1 e2
      obtain ⟨i, hi, rfl⟩ := List.mem_map.mp hd
      simp only [List.set_cons_succ, List.set_cons_zero, rowB]
      rcases near2 (P := P) (S := S) (A := bx a0 a1 a2 a3) (z := z) (x := x) (y := a1 + i) (l := l) (b0 := b0) (b1 := b1) (b2 := b2) (b3 := b3) with ⟨g1, ρ', S', g2, z', l', rfl, rfl⟩ | ⟨g1, S', g2, l', rfl⟩
      · exact .inl ⟨g1, _, _, g2, _, z', l', rfl, rfl⟩
      · exact .inr ⟨g1, _, g2, l', rfl⟩)
  have hb : -4611686018427387904 ≤ a1 ∧ a1 < 4611686018427387904 ∧ -4611686018427387904 ≤ a3 + 1 ∧ a3 + 1 < 4611686018427387904 := by
    unfold Bnd at h1 h3; omega
  have e : run P b_law_near_3 [some (bx a0 a1 a2 a3), some (bx b0 b1 b2 b3), some (.int x), y, z] (S ++ l) = (forL (ckS none) (fun d ρ S => run P b_law_near_2 (ρ.set 3 (some d)) S) (rngD a1 (a3 + 1 - a1).toNat) [some (bx a0 a1 a2 a3), some (bx b0 b1 b2 b3), some (.int x), y, z] (S ++ l)).seq (run P .skip) := by
    simp [b_law_near_3, varR, hb]
  rcases this with ⟨g1, ρ', S', e1, h⟩ | ⟨g1, S', e1, l', rfl⟩
  · exact .inl ⟨g1, _, _, by rw [e, e1]; rfl, h⟩
  · exact .inr ⟨g1, _, by rw [e, e1]; rfl, l', rfl⟩
def nearB (a0 a1 a2 a3 b0 b1 b2 b3 : Int) : Bool := (rngD a0 (a2 + 1 - a0).toNat).any (colB b0 b1 b2 b3 a1 a3)
theorem near_ok (k : Nat) (S : Store) (h0 : Bnd a0) (h1 : Bnd a1) (h2 : Bnd a2) (h3 : Bnd a3) : callN Fs (k + 1) 4 [bx a0 a1 a2 a3, bx b0 b1 b2 b3] S = .ok (.bl (nearB a0 a1 a2 a3 b0 b1 b2 b3)) S := by
  rw [call_near]
  have := for_ret (ck := ckS none) (f := fun d ρ S => run (callN Fs k) b_law_near_3 (ρ.set 2 (some d)) S) (r := .bl true) (colB b0 b1 b2 b3 a1 a3)
    (fun ρ' S' => ∃ x y z l, ρ' = [some (bx a0 a1 a2 a3), some (bx b0 b1 b2 b3), x, y, z] ∧ S' = S ++ l) (fun S' => ∃ l, S' = S ++ l) (rngD a0 (a2 + 1 - a0).toNat)
    [some (bx a0 a1 a2 a3), some (bx b0 b1 b2 b3), none, none, none] S ⟨none, none, none, [], rfl, by simp⟩ (fun _ _ _ => rfl)
    (fun d hd ρ S1 ⟨x, y, z, l, e1, e2⟩ => by
      subst e1 e2
      obtain ⟨i, hi, rfl⟩ := List.mem_map.mp hd
      simp only [List.set_cons_succ, List.set_cons_zero]
      rcases near3 (P := callN Fs k) (S := S) (a0 := a0) (a2 := a2) (y := y) (z := z) (x := a0 + i) (l := l) (b0 := b0) (b1 := b1) (b2 := b2) (b3 := b3) h1 h3 with ⟨g1, ρ', S', g2, y', z', l', rfl, rfl⟩ | ⟨g1, S', g2, l', rfl⟩
      · exact .inl ⟨g1, _, _, g2, _, y', z', l', rfl, rfl⟩
      · exact .inr ⟨g1, _, g2, l', rfl⟩)
  have hb : -4611686018427387904 ≤ a0 ∧ a0 < 4611686018427387904 ∧ -4611686018427387904 ≤ a2 + 1 ∧ a2 + 1 < 4611686018427387904 := by
    unfold Bnd at h0 h2; omega
  have e : ∀ r, run (callN Fs k) (.seq (.for (.var 2) (.rng (.cons (.ix (.var 0) (.int 0)) (.cons (.bin .add (.ix (.var 0) (.int 2)) (.int 1)) .nil))) b_law_near_3) r) [some (bx a0 a1 a2 a3), some (bx b0 b1 b2 b3), none, none, none] S = (forL (ckS none) (fun d ρ S => run (callN Fs k) b_law_near_3 (ρ.set 2 (some d)) S) (rngD a0 (a2 + 1 - a0).toNat) [some (bx a0 a1 a2 a3), some (bx b0 b1 b2 b3), none, none, none] S).seq (run (callN Fs k) r) := by
    intro r
    simp [varR, hb]
  unfold c_law_near nearB
  rw [e]
  rcases this with ⟨g1, ρ', S', e1, x', y', z', l', rfl, rfl⟩ | ⟨g1, S', e1, l', rfl⟩
  · rw [e1, g1]
    simp
    exact fin_pure rfl
  · rw [e1, g1]
    simp
    exact fin_pure rfl
end
/-! ### the plain law -/
section
variable {a0 a1 a2 a3 b0 b1 b2 b3 : Int}
theorem near_iff : nearB a0 a1 a2 a3 b0 b1 b2 b3 = true ↔ ∃ x y : Int, a0 ≤ x ∧ x ≤ a2 ∧ a1 ≤ y ∧ y ≤ a3 ∧ ((b0 ≤ x ∧ x ≤ b2 ∧ b1 ≤ y ∧ y ≤ b3) ∨ (b0 ≤ x + 1 ∧ x + 1 ≤ b2 ∧ b1 ≤ y ∧ y ≤ b3) ∨ (b0 ≤ x - 1 ∧ x - 1 ≤ b2 ∧ b1 ≤ y ∧ y ≤ b3) ∨ (b0 ≤ x ∧ x ≤ b2 ∧ b1 ≤ y + 1 ∧ y + 1 ≤ b3) ∨ (b0 ≤ x ∧ x ≤ b2 ∧ b1 ≤ y - 1 ∧ y - 1 ≤ b3)) := by
  unfold nearB
  rw [List.any_eq_true]
  constructor
  · rintro ⟨d, hd, h⟩
    obtain ⟨i, hi, rfl⟩ := List.mem_map.mp hd
    rw [List.mem_range] at hi
    simp only [colB, List.any_eq_true] at h
    obtain ⟨e, he, h⟩ := h
    obtain ⟨j, hj, rfl⟩ := List.mem_map.mp he
    rw [List.mem_range] at hj
    refine ⟨a0 + i, a1 + j, by omega, by omega, by omega, by omega, ?_⟩
    simpa [rowB, five, inD, inB] using h
  · rintro ⟨x, y, h1, h2, h3, h4, h⟩
    refine ⟨.int x, List.mem_map.mpr ⟨(x - a0).toNat, List.mem_range.mpr (by omega), by congr 1; omega⟩, ?_⟩
    simp only [colB, List.any_eq_true]
    refine ⟨.int y, List.mem_map.mpr ⟨(y - a1).toNat, List.mem_range.mpr (by omega), by congr 1; omega⟩, ?_⟩
    simpa [rowB, five, inD, inB] using h
def gap (u v : Int) : Int := if (if 0 < u then u else 0) < v then v else if 0 < u then u else 0
theorem gap_cases (u v : Int) : 0 ≤ gap u v ∧ u ≤ gap u v ∧ v ≤ gap u v ∧ (gap u v = 0 ∨ gap u v = u ∨ gap u v = v) := by
  unfold gap
  split <;> split at * <;> omega
theorem near_apart (ha : a0 ≤ a2) (ha2 : a1 ≤ a3) (hb : b0 ≤ b2) (hb2 : b1 ≤ b3) : nearB a0 a1 a2 a3 b0 b1 b2 b3 = !decide (2 ≤ gap (a0 - b2) (b0 - a2) + gap (a1 - b3) (b1 - a3)) := by
  obtain ⟨x1, x2, x3, x4⟩ := gap_cases (a0 - b2) (b0 - a2)
  obtain ⟨y1, y2, y3, y4⟩ := gap_cases (a1 - b3) (b1 - a3)
  generalize gap (a0 - b2) (b0 - a2) = gx at *
  generalize gap (a1 - b3) (b1 - a3) = gy at *
  rw [Bool.eq_iff_iff, near_iff]
  simp only [Bool.not_eq_true', decide_eq_false_iff_not]
  constructor
  · rintro ⟨x, y, h1, h2, h3, h4, h | h | h | h | h⟩ <;> omega
  · intro h
    have hmx : ∀ u v : Int, ∃ m, u ≤ m ∧ v ≤ m ∧ (m = u ∨ m = v) := fun u v => by
      by_cases h : u ≤ v
      · exact ⟨v, h, Int.le_refl _, .inr rfl⟩
      · exact ⟨u, Int.le_refl _, by omega, .inl rfl⟩
    obtain ⟨mx, p1, p2, p3⟩ := hmx a0 b0
    obtain ⟨my, q1, q2, q3⟩ := hmx a1 b1
    by_cases c1 : a0 - b2 = 1
    · exact ⟨a0, my, by omega, by omega, by omega, by omega, by omega⟩
    · by_cases c2 : b0 - a2 = 1
      · exact ⟨a2, my, by omega, by omega, by omega, by omega, by omega⟩
      · by_cases c3 : a1 - b3 = 1
        · exact ⟨mx, a1, by omega, by omega, by omega, by omega, by omega⟩
        · by_cases c4 : b1 - a3 = 1
          · exact ⟨mx, a3, by omega, by omega, by omega, by omega, by omega⟩
          · exact ⟨mx, my, by omega, by omega, by omega, by omega, by omega⟩
end
section
variable {k : Nat} {S : Store} {a0 a1 a2 a3 b0 b1 b2 b3 : Int}
theorem apart_ok (k : Nat) (S : Store) : callN Fs (k + 1) 0 [bx a0 a1 a2 a3, bx b0 b1 b2 b3] S = .ok (.bl (decide (2 ≤ gap (a0 - b2) (b0 - a2) + gap (a1 - b3) (b1 - a3)))) S := by
  rw [call_apart]
  simp [c_apart, varR, gap]
  exact fin_pure0 rfl
theorem apart_near (k : Nat) (S : Store) (ha : a0 ≤ a2) (ha2 : a1 ≤ a3) (hb : b0 ≤ b2) (hb2 : b1 ≤ b3) : callN Fs (k + 1) 0 [bx a0 a1 a2 a3, bx b0 b1 b2 b3] S = .ok (.bl (!nearB a0 a1 a2 a3 b0 b1 b2 b3)) S := by
  rw [apart_ok, near_apart ha ha2 hb hb2, Bool.not_not]
theorem moved_ok (k : Nat) (S : Store) (dx dy : Int) : callN Fs (k + 1) 1 [bx a0 a1 a2 a3, .int dx, .int dy] S = .ok (bx (a0 + dx) (a1 + dy) (a2 + dx) (a3 + dy)) S := by
  rw [call_moved]
  have l4 : 4 ≤ linesz := by decide
  simp [c_moved_box, varR, l4]
  exact fin_pure0 rfl
theorem is_ok (k : Nat) (a b : Bool) (S : Store) : callN Fs (k + 1) 5 [.bl a, .bl b] S = .ok (.bl (decide (a = b))) S := by
  rw [call_is]
  have h : cmpR .eq (.bl a) (.bl b) S = .ok (.bl (decide (a = b))) S := by cases a <;> cases b <;> rfl
  simp [c_law_is, varR, isiR, isTys, isTy, h]
  exact fin_pure0 rfl
end
end Lw

set_option Elab.async false
set_option linter.all false
set_option maxRecDepth 100000
namespace Lw
open PySem L2 Ng
section
variable {k : Nat} {S : Store}
theorem in_wn (x : Str) : cmpT .in_ (.str x) (.tup [.str "wire", .str "not"]) S = .ok (decide ((("wire" : Str) = x) ∨ (("not" : Str) = x))) S := by
  simp [cmpT, cmp2, flatD, inF, eqF]
theorem in_fc (x : Str) : cmpT .in_ (.str x) (.tup [.str "fork", .str "cross", .str "and", .str "or"]) S = .ok (decide ((("fork" : Str) = x) ∨ (("cross" : Str) = x) ∨ (("and" : Str) = x) ∨ (("or" : Str) = x))) S := by
  simp [cmpT, cmp2, flatD, inF, eqF]
/-- a state that is a wall just so -/
def Wl (d : D) (b : Bool) : Prop := ∀ k S, callN Fs (k + 1) 2 [d] S = .ok (.bl b) S
theorem wl_wn {x : Str} {d s : Int} (hx : x = "wire" ∨ x = "not") : Wl (.tup [.str x, .int d, .int s]) (decide (s = 0)) := by
  intro k S
  rw [call_barrier]
  have l2 : 2 ≤ linesz := by decide
  have h1 : ∀ S, cmpT .in_ (.str x) (.tup [.str "wire", .str "not"]) S = .ok true S := fun S => by
    rw [in_wn]
    rcases hx with rfl | rfl <;> simp
  simp [c_is_barrier, varR, l2, h1]
  exact fin_pure0 rfl
theorem wl_4 {x : Str} {d s a b : Int} (hx : x = "fork" ∨ x = "cross" ∨ x = "and" ∨ x = "or") : Wl (.tup [.str x, .int d, .int s, .int a, .int b]) (decide (a = 0) && decide (b = 0)) := by
  intro k S
  rw [call_barrier]
  have l2 : 2 ≤ linesz := by decide
  have l4 : 4 ≤ linesz := by decide
  have h1 : ∀ S, cmpT .in_ (.str x) (.tup [.str "wire", .str "not"]) S = .ok false S := fun S => by
    rw [in_wn]
    rcases hx with rfl | rfl | rfl | rfl <;> rfl
  have h2 : ∀ S, cmpT .in_ (.str x) (.tup [.str "fork", .str "cross", .str "and", .str "or"]) S = .ok true S := fun S => by
    rw [in_fc]
    rcases hx with rfl | rfl | rfl | rfl <;> rfl
  by_cases ha : a = 0
  · simp [c_is_barrier, varR, l2, l4, h1, h2, ha]
    exact fin_pure0 rfl
  · simp [c_is_barrier, varR, l2, l4, h1, h2, ha]
    exact fin_pure0 rfl
theorem wl_join {d s a b : Int} : Wl (.tup [.str "join", .int d, .int s, .int a, .int b]) (decide (b = 0)) := by
  intro k S
  rw [call_barrier]
  have l2 : 2 ≤ linesz := by decide
  have l4 : 4 ≤ linesz := by decide
  have h1 : ∀ S, cmpT .in_ (.str "join") (.tup [.str "wire", .str "not"]) S = .ok false S := fun S => by
    rw [in_wn]; rfl
  have h2 : ∀ S, cmpT .in_ (.str "join") (.tup [.str "fork", .str "cross", .str "and", .str "or"]) S = .ok false S := fun S => by
    rw [in_fc]; rfl
  have h3 : ∀ S, cmpR .eq (.str "join") (.str "join") S = .ok (.bl true) S := fun S => rfl
  simp [c_is_barrier, varR, l2, l4, h1, h2, h3]
  exact fin_pure0 rfl
theorem wl_no {x : Str} {r : List D} (h1 : ∀ S, cmpT .in_ (.str x) (.tup [.str "wire", .str "not"]) S = .ok false S) (h2 : ∀ S, cmpT .in_ (.str x) (.tup [.str "fork", .str "cross", .str "and", .str "or"]) S = .ok false S)
    (h3 : ∀ S, cmpR .eq (.str x) (.str "join") S = .ok (.bl false) S) : Wl (.tup (.str x :: r)) false := by
  intro k S
  rw [call_barrier]
  have l2 : 2 ≤ linesz := by decide
  have l4 : 4 ≤ linesz := by decide
  simp [c_is_barrier, varR, l2, l4, h1, h2, h3]
  exact fin_pure0 rfl
def RowOk (d : D) : Prop := ∃ st b, d = .tup [st, .bl b] ∧ Wl st b
theorem states_ok (k : Nat) {n : Nat} {ds : List Int} (hS : S[n]? = some (dl ds)) (hl : ds.length = 16) (hd : DrOk ds) :
    ∃ rows, (∀ d ∈ rows, RowOk d) ∧ callN Fs (k + 1) 6 [.ref n] S = .ok (.ref S.length) (S ++ [.lst rows]) := by
  obtain ⟨x0, hx0, e0⟩ := at_int (xs := ds) (i := 0) (by omega) (by omega)
  obtain ⟨x1, hx1, e1⟩ := at_int (xs := ds) (i := 1) (by omega) (by omega)
  obtain ⟨x2, hx2, e2⟩ := at_int (xs := ds) (i := 2) (by omega) (by omega)
  obtain ⟨x3, hx3, e3⟩ := at_int (xs := ds) (i := 3) (by omega) (by omega)
  obtain ⟨x4, hx4, e4⟩ := at_int (xs := ds) (i := 4) (by omega) (by omega)
  obtain ⟨x5, hx5, e5⟩ := at_int (xs := ds) (i := 5) (by omega) (by omega)
  obtain ⟨sy, hsy, esy⟩ := at_int (xs := [0, 0, 8, 9, 6, 96]) (i := x2 % 6) (by omega) (by simp; omega)
  obtain ⟨ot, hot, eot⟩ := at_int (xs := [0, 0, 1, 2, 8]) (i := x3 % 5) (by omega) (by simp; omega)
  obtain ⟨lo, hlo, elo⟩ := at_int (xs := [0, 1, 2]) (i := x3 % 3) (by omega) (by simp; omega)
  simp only [List.map_cons, List.map_nil] at esy eot elo
  have hS' : ∀ l, (S ++ l)[n]? = some (.lst (ds.map D.int)) := fun l => get_lo hS
  simp only [dl] at hS
  have l2 : 2 ≤ linesz := by decide
  have l3 : 3 ≤ linesz := by decide
  have l4 : 4 ≤ linesz := by decide
  have l5 : 5 ≤ linesz := by decide
  have l6 : 6 ≤ linesz := by decide
  have l7 : 7 ≤ linesz := by decide
  have l1 : 1 ≤ linesz := by decide
  have n2 : 2 < linesz := by decide
  have n3 : 3 < linesz := by decide
  have n4 : 4 < linesz := by decide
  have n5 : 5 < linesz := by decide
  have n6 : 6 < linesz := by decide
  have n7 : 7 < linesz := by decide
  have n8 : 8 < linesz := by decide
  have n9 : 9 < linesz := by decide
  have l14 : 14 ≤ linesz := by decide
  have hlo2 : 0 ≤ lo ∧ lo ≤ 2 := by simp at hlo; omega
  have hsy2 : 0 ≤ sy := by simp at hsy; omega
  have ac : ∀ (a b : Int) (S : Store), andR (fun S1 => (R.ok (.int b) S1).bind fun x S2 => (R.ok (.int 0) S2).bind fun y S3 => cmpR .eq x y S3) (.bl (decide (a = 0))) S = .ok (.bl (decide (a = 0) && decide (b = 0))) S := fun a b S => by
    by_cases h : a = 0 <;> simp [h]
  refine ⟨[.tup [.tup [.str "wire", .int (x0 % 4), .int sy], .bl (decide (sy = 0))], .tup [.tup [.str "not", .int (x0 % 4), .int sy], .bl (decide (sy = 0))],
    .tup [.tup [.str "fork", .int (x0 % 4), .int (x1 % 2), .int sy, .int (lo * (if 0 < sy then 1 else 0))], .bl (decide (sy = 0))],
    .tup [.tup [.str "cross", .int (x0 % 4), .int (x1 % 2), .int sy, .int ot], .bl (decide (sy = 0) && decide (ot = 0))],
    .tup [.tup [.str "and", .int (x0 % 4), .int (x1 % 2), .int lo, .int (x4 % 3)], .bl (decide (lo = 0) && decide (x4 % 3 = 0))],
    .tup [.tup [.str "or", .int (x0 % 4), .int (x1 % 2), .int (x4 % 3), .int lo], .bl (decide (lo = 0) && decide (x4 % 3 = 0))],
    .tup [.tup [.str "join", .int (x0 % 4), .int (x1 % 2), .int (x5 % 2), .int sy], .bl (decide (sy = 0))],
    .tup [.tup [.str "reader", .int (x0 % 4), .int (x1 % 2), .int 0, .int 1, .int 0, .int 0], .bl false],
    .tup [.tup [.str "arm", .int (x0 % 4), .int (x5 % 2), .int 0, .int 0], .bl false],
    .tup [.tup [.str "head", .int (x0 % 4), .int 1, .int 0, .int 0], .bl false],
    .tup [.tup [.str "stretch", .int (x0 % 4), .int 1], .bl false], .tup [.tup [.str "port", .int (x0 % 4), .int 0, .int 0], .bl false], .tup [.tup [.str "regrow", .int (x0 % 4)], .bl false], .tup [.tup [.str "fade"], .bl false]], ?_, ?_⟩
  · have no : ∀ (x : Str) (r : List D), (x = "reader" ∨ x = "arm" ∨ x = "head" ∨ x = "stretch" ∨ x = "port" ∨ x = "regrow" ∨ x = "fade") → Wl (.tup (.str x :: r)) false := fun x r h => by
      refine wl_no (fun S => ?_) (fun S => ?_) (fun S => ?_)
      · rcases h with rfl | rfl | rfl | rfl | rfl | rfl | rfl <;> rfl
      · rcases h with rfl | rfl | rfl | rfl | rfl | rfl | rfl <;> rfl
      · rcases h with rfl | rfl | rfl | rfl | rfl | rfl | rfl <;> rfl
    simp only [List.forall_mem_cons]
    refine ⟨⟨_, _, rfl, wl_wn (.inl rfl)⟩, ⟨_, _, rfl, wl_wn (.inr rfl)⟩, ⟨_, _, rfl, ?_⟩, ⟨_, _, rfl, wl_4 (.inr (.inl rfl))⟩, ⟨_, _, rfl, wl_4 (.inr (.inr (.inl rfl)))⟩, ⟨_, _, rfl, ?_⟩, ⟨_, _, rfl, wl_join⟩, ⟨_, _, rfl, no _ _ (by simp)⟩, ⟨_, _, rfl, no _ _ (by simp)⟩, ⟨_, _, rfl, no _ _ (by simp)⟩, ⟨_, _, rfl, no _ _ (by simp)⟩, ⟨_, _, rfl, no _ _ (by simp)⟩, ⟨_, _, rfl, no _ _ (by simp)⟩, ⟨_, _, rfl, no _ _ (by simp)⟩, fun _ h => nomatch h⟩
    · have := wl_4 (x := "fork") (d := x0 % 4) (s := x1 % 2) (a := sy) (b := lo * (if 0 < sy then 1 else 0)) (.inl rfl)
      by_cases h : sy = 0
      · subst h; simpa using this
      · simpa [h] using this
    · have := wl_4 (x := "or") (d := x0 % 4) (s := x1 % 2) (a := x4 % 3) (b := lo) (.inr (.inr (.inr rfl)))
      rwa [Bool.and_comm] at this
  · rw [call_states]
    have hm : ∀ S : Store, bin2 .mul (.int lo) (.int 1) S = .ok (.int (lo * 1)) S := fun S => b2_mulL _ _ (by omega)
    have hm0 : ∀ S : Store, bin2 .mul (.int lo) (.int 0) S = .ok (.int (lo * 0)) S := fun S => b2_mulL _ _ (by omega)
    by_cases h1 : sy = 0 <;> by_cases h2 : lo = 0
    · simp [c_law_states, varR, hS, hS', e0, e1, e2, e3, e4, e5, esy, eot, elo, l1, l2, l3, l4, l5, l6, l7, n2, n3, n4, n5, n6, n7, n8, n9, l14, asgO, asgT, asgT.asgTs, hm, hm0, h1, h2]
      exact fin_at rfl (by simp)
    · simp [c_law_states, varR, hS, hS', e0, e1, e2, e3, e4, e5, esy, eot, elo, l1, l2, l3, l4, l5, l6, l7, n2, n3, n4, n5, n6, n7, n8, n9, l14, asgO, asgT, asgT.asgTs, hm, hm0, h1, h2]
      exact fin_at rfl (by simp)
    · have h3 : 0 < sy := by omega
      simp [c_law_states, varR, hS, hS', e0, e1, e2, e3, e4, e5, esy, eot, elo, l1, l2, l3, l4, l5, l6, l7, n2, n3, n4, n5, n6, n7, n8, n9, l14, asgO, asgT, asgT.asgTs, hm, hm0, h1, h2, h3]
      exact fin_at rfl (by simp)
    · have h3 : 0 < sy := by omega
      simp [c_law_states, varR, hS, hS', e0, e1, e2, e3, e4, e5, esy, eot, elo, l1, l2, l3, l4, l5, l6, l7, n2, n3, n4, n5, n6, n7, n8, n9, l14, asgO, asgT, asgT.asgTs, hm, hm0, h1, h2, h3]
      exact fin_at rfl (by simp)
end
end Lw

set_option Elab.async false
set_option linter.all false
set_option maxRecDepth 100000
namespace Lw
open PySem L2 Ng
def gam (_ : PySem.W.Frag) (_ : Nat) : Value := .none
section
variable {k : Nat} {S : Store}
theorem turn_ok (k : Nat) {a : Option D} {n : Nat} {j : Int} {v3 v4 v5 v6 v7 v8 v9 v10 v11 v12 v13 : Option D} {ds : List Int} (hS : S[n]? = some (dl ds)) (hl : ds.length = 40) (hd : DrOk ds) (hj0 : 0 ≤ j) (hj1 : j < 3) :
    ∃ r3 r4 r5 r6 r7 r8 r9 r10 r11 r12 r13 l, run (callN Fs (k + 1)) b_law_2 [a, some (.ref n), some (.int j), v3, v4, v5, v6, v7, v8, v9, v10, v11, v12, v13] S = .nx [a, some (.ref n), some (.int j), r3, r4, r5, r6, r7, r8, r9, r10, r11, r12, r13] (S ++ l) := by
  obtain ⟨x0, hx0, e0⟩ := at_int (xs := ds) (i := 8 * j) (by omega) (by omega)
  obtain ⟨x1, hx1, e1⟩ := at_int (xs := ds) (i := 8 * j + 1) (by omega) (by omega)
  obtain ⟨x2, hx2, e2⟩ := at_int (xs := ds) (i := 8 * j + 2) (by omega) (by omega)
  obtain ⟨x3, hx3, e3⟩ := at_int (xs := ds) (i := 8 * j + 3) (by omega) (by omega)
  obtain ⟨x4, hx4, e4⟩ := at_int (xs := ds) (i := 8 * j + 4) (by omega) (by omega)
  obtain ⟨x5, hx5, e5⟩ := at_int (xs := ds) (i := 8 * j + 5) (by omega) (by omega)
  obtain ⟨x6, hx6, e6⟩ := at_int (xs := ds) (i := 8 * j + 6) (by omega) (by omega)
  obtain ⟨x7, hx7, e7⟩ := at_int (xs := ds) (i := 8 * j + 7) (by omega) (by omega)
  obtain ⟨dx, hdx, edx⟩ := at_int (xs := [0, 1000, -70000]) (i := x6 % 3) (by omega) (by simp; omega)
  simp only [List.map_cons, List.map_nil] at edx
  have hdx2 : -70000 ≤ dx ∧ dx ≤ 1000 := by simp at hdx; omega
  have hS' : ∀ l, (S ++ l)[n]? = some (.lst (ds.map D.int)) := fun l => get_lo hS
  simp only [dl] at hS
  have l2 : 2 ≤ linesz := by decide
  have l3 : 3 ≤ linesz := by decide
  have l4 : 4 ≤ linesz := by decide
  have n0 : 0 < linesz := by decide
  have n1 : 1 < linesz := by decide
  obtain ⟨x, hx⟩ : ∃ x, x = x0 % 7 := ⟨_, rfl⟩
  obtain ⟨y, hy⟩ : ∃ y, y = x1 % 7 := ⟨_, rfl⟩
  obtain ⟨p, hp⟩ : ∃ p, p = x2 % 5 := ⟨_, rfl⟩
  obtain ⟨q, hq⟩ : ∃ q, q = x3 % 5 := ⟨_, rfl⟩
  obtain ⟨u, hu⟩ : ∃ u, u = x4 % 4 := ⟨_, rfl⟩
  obtain ⟨v, hv⟩ : ∃ v, v = x5 % 4 := ⟨_, rfl⟩
  obtain ⟨dy, hdy⟩ : ∃ dy, dy = -x7 % 50 := ⟨_, rfl⟩
  have hnear : ∀ S, callN Fs (k + 1) 4 [bx 0 0 p q, bx x y (x + u) (y + v)] S = .ok (.bl (nearB 0 0 p q x y (x + u) (y + v))) S := fun S => near_ok k S (by unfold Bnd; omega) (by unfold Bnd; omega) (by unfold Bnd; omega) (by unfold Bnd; omega)
  have hnear2 : ∀ S, callN Fs (k + 1) 4 [bx (x + dx) (y + dy) (x + u + dx) (y + v + dy), bx 0 0 p q] S = .ok (.bl (nearB (x + dx) (y + dy) (x + u + dx) (y + v + dy) 0 0 p q)) S := fun S => near_ok k S (by unfold Bnd; omega) (by unfold Bnd; omega) (by unfold Bnd; omega) (by unfold Bnd; omega)
  have hap : ∀ S, callN Fs (k + 1) 0 [bx 0 0 p q, bx x y (x + u) (y + v)] S = .ok (.bl (!nearB 0 0 p q x y (x + u) (y + v))) S := fun S => apart_near k S (by omega) (by omega) (by omega) (by omega)
  have sym : ∀ {a0 a1 a2 a3 b0 b1 b2 b3 : Int}, nearB a0 a1 a2 a3 b0 b1 b2 b3 = nearB b0 b1 b2 b3 a0 a1 a2 a3 := fun {_ _ _ _ _ _ _ _} => by
    rw [Bool.eq_iff_iff, near_iff, near_iff]
    constructor
    · rintro ⟨s, t, h1, h2, h3, h4, h | h | h | h | h⟩
      · exact ⟨s, t, by omega, by omega, by omega, by omega, by omega⟩
      · exact ⟨s + 1, t, by omega, by omega, by omega, by omega, by omega⟩
      · exact ⟨s - 1, t, by omega, by omega, by omega, by omega, by omega⟩
      · exact ⟨s, t + 1, by omega, by omega, by omega, by omega, by omega⟩
      · exact ⟨s, t - 1, by omega, by omega, by omega, by omega, by omega⟩
    · rintro ⟨s, t, h1, h2, h3, h4, h | h | h | h | h⟩
      · exact ⟨s, t, by omega, by omega, by omega, by omega, by omega⟩
      · exact ⟨s + 1, t, by omega, by omega, by omega, by omega, by omega⟩
      · exact ⟨s - 1, t, by omega, by omega, by omega, by omega, by omega⟩
      · exact ⟨s, t + 1, by omega, by omega, by omega, by omega, by omega⟩
      · exact ⟨s, t - 1, by omega, by omega, by omega, by omega, by omega⟩
  have hap2 : ∀ S, callN Fs (k + 1) 0 [bx x y (x + u) (y + v), bx 0 0 p q] S = .ok (.bl (!nearB 0 0 p q x y (x + u) (y + v))) S := fun S => by
    rw [apart_near k S (by omega) (by omega) (by omega) (by omega), sym]
  have hap3 : ∀ S, callN Fs (k + 1) 0 [bx dx dy (p + dx) (q + dy), bx (x + dx) (y + dy) (x + u + dx) (y + v + dy)] S = .ok (.bl (!nearB 0 0 p q x y (x + u) (y + v))) S := fun S => by
    rw [apart_near k S (by omega) (by omega) (by omega) (by omega), near_apart (by omega) (by omega) (by omega) (by omega), near_apart (by omega) (by omega) (by omega) (by omega)]
    rw [show dx - (x + u + dx) = 0 - (x + u) by omega, show x + dx - (p + dx) = x - p by omega, show dy - (y + v + dy) = 0 - (y + v) by omega, show y + dy - (q + dy) = y - q by omega]
  have hap4 : ∀ S, callN Fs (k + 1) 0 [bx (x + dx) (y + dy) (x + u + dx) (y + v + dy), bx 0 0 p q] S = .ok (.bl (!nearB (x + dx) (y + dy) (x + u + dx) (y + v + dy) 0 0 p q)) S := fun S => apart_near k S (by omega) (by omega) (by omega) (by omega)
  have hap5 : ∀ S, callN Fs (k + 1) 0 [bx 0 0 p q, bx 0 0 p q] S = .ok (.bl false) S := fun S => by
    rw [apart_near k S (by omega) (by omega) (by omega) (by omega), near_iff.mpr ⟨0, 0, by omega, by omega, by omega, by omega, by omega⟩]
    rfl
  have hm1 : ∀ S, callN Fs (k + 1) 1 [bx 0 0 p q, .int dx, .int dy] S = .ok (bx dx dy (p + dx) (q + dy)) S := fun S => by
    rw [moved_ok]; simp
  have hm2 : ∀ S, callN Fs (k + 1) 1 [bx x y (x + u) (y + v), .int dx, .int dy] S = .ok (bx (x + dx) (y + dy) (x + u + dx) (y + v + dy)) S := fun S => moved_ok k S dx dy
  have his : ∀ a b S, callN Fs (k + 1) 5 [.bl a, .bl b] S = .ok (.bl (decide (a = b))) S := fun a b S => is_ok k a b S
  have hne : ∀ (a b c d : Int) S, cmpT .ne (bx a b c d) (bx a b c d) S = .ok false S := fun a b c d S => by
    have := eq_tups (S := S) [a, b, c, d] [a, b, c, d]
    simp only [List.map_cons, List.map_nil, decide_true] at this
    simp [cmpT, cmp2, this]
  generalize nearB 0 0 p q x y (x + u) (y + v) = b1 at *
  generalize nearB (x + dx) (y + dy) (x + u + dx) (y + v + dy) 0 0 p q = b2 at *
  simp [b_law_2, varR, hS, hS', e0, e1, e2, e3, e4, e5, e6, e7, edx, l2, l3, l4, asgO, asgT, asgT.asgTs, ← hx, ← hy, ← hp, ← hq, ← hu, ← hv, ← hdy, hnear, hnear2, hap, hap2, hap3, hap4, hap5, hm1, hm2, his, hne, lcR, lcL, lcF, wipeE, n0, n1]
theorem law_true (ns : List Int) (hns : ns.length ≤ 63) : ∃ S', callN (Ts.map (·.fn)) 20 7 [.ref 0] [.ro (ns.map D.int)] = .ok (.bl true) S' := by
  show ∃ S', callN Fs (18 + 1 + 1) 7 [.ref 0] [.ro (ns.map D.int)] = .ok (.bl true) S'
  rw [call_law]
  obtain ⟨ds, hl, hd, ed⟩ := draws_ok (P := callN Fs 18) (r := 0) (S := [.ro (ns.map D.int)]) (ns := ns) rfl hns 40 (by decide)
  rw [← call_draws] at ed
  obtain ⟨ρ', S', e1, l, r3, r4, r5, r6, r7, r8, r9, r10, r11, r12, r13, v2, rfl, rfl⟩ := for_inv (ck := ckS none) (f := fun x ρ S => run (callN Fs (18 + 1)) b_law_2 (ρ.set 2 (some x)) S) (ds := rngD 0 3) (ρ := [some (.ref 0), some (.ref 1), none, none, none, none, none, none, none, none, none, none, none, none]) (S := [Cell.ro (ns.map D.int), dl ds])
    (fun t ρ' S' => ∃ l r3 r4 r5 r6 r7 r8 r9 r10 r11 r12 r13 v2, ρ' = [some (.ref 0), some (.ref 1), v2, r3, r4, r5, r6, r7, r8, r9, r10, r11, r12, r13] ∧ S' = Cell.ro (ns.map D.int) :: dl ds :: l)
    ⟨[], none, none, none, none, none, none, none, none, none, none, none, none, rfl, rfl⟩ (fun _ _ _ _ => rfl)
    (fun t x ρ1 S' hx ⟨l, r3, r4, r5, r6, r7, r8, r9, r10, r11, r12, r13, v2, e1, e2⟩ => by
      subst e1 e2
      obtain ⟨ht, rfl⟩ := rng_at hx
      obtain ⟨q3, q4, q5, q6, q7, q8, q9, q10, q11, q12, q13, l', e2⟩ := turn_ok (S := Cell.ro (ns.map D.int) :: dl ds :: l) 18 (a := some (.ref 0)) (n := 1) (j := 0 + (t : Int)) (v3 := r3) (v4 := r4) (v5 := r5) (v6 := r6) (v7 := r7) (v8 := r8) (v9 := r9) (v10 := r10) (v11 := r11) (v12 := r12) (v13 := r13) (ds := ds) rfl hl hd (by omega) (by omega)
      exact ⟨_, _, e2, l ++ l', q3, q4, q5, q6, q7, q8, q9, q10, q11, q12, q13, _, rfl, rfl⟩)
  have ed' : callN Fs 19 3 [.ref 0, .int 40] [.ro (ns.map D.int)] = .ok (.ref 1) [.ro (ns.map D.int), .lst (ds.map D.int)] := ed
  have hcut : cutD (ds.map D.int) (some 24) none = (ds.drop 24).map D.int := by
    rw [show (24 : Int) = ((24 : Nat) : Int) from rfl, cut_from, List.map_drop]
  obtain ⟨rows, hr, er⟩ := states_ok (S := Cell.ro (ns.map D.int) :: dl ds :: l ++ [dl (ds.drop 24)]) 18 (n := l.length + 2) (ds := ds.drop 24) (by simp) (by simp [hl]) (fun d h => hd d (List.mem_of_mem_drop h))
  have er' : callN Fs 19 6 [.ref (l.length + 2)] (Cell.ro (ns.map D.int) :: .lst (ds.map D.int) :: (l ++ [.lst ((ds.drop 24).map D.int)])) = .ok (.ref (l.length + 3)) (Cell.ro (ns.map D.int) :: .lst (ds.map D.int) :: (l ++ [.lst ((ds.drop 24).map D.int), .lst rows])) := by
    have := er
    simp only [dl, List.cons_append, List.append_assoc, List.length_cons, List.length_append, List.length_nil, List.nil_append] at this
    exact this
  obtain ⟨ρ2, S2, e3, h3⟩ := for_inv (ck := ckS (some (l.length + 3, .lst rows))) (f := fun d ρ S => (asgO (.tup (.cons (.var 13) (.cons (.var 10) .nil))) d ρ S).seq (run (callN Fs 19) b_law_1)) (ds := rows) (ρ := [some (.ref 0), some (.ref 1), v2, r3, r4, r5, r6, r7, r8, r9, r10, r11, r12, r13]) (S := Cell.ro (ns.map D.int) :: .lst (ds.map D.int) :: (l ++ [.lst ((ds.drop 24).map D.int), .lst rows]))
    (fun t ρ' S' => ∃ v10 v13, ρ' = [some (.ref 0), some (.ref 1), v2, r3, r4, r5, r6, r7, r8, r9, v10, r11, r12, v13] ∧ S' = Cell.ro (ns.map D.int) :: .lst (ds.map D.int) :: (l ++ [.lst ((ds.drop 24).map D.int), .lst rows]))
    ⟨r10, r13, rfl, rfl⟩ (fun j ρ S ⟨_, _, _, e⟩ => by
      subst e
      simp only [ckS_some, decide_eq_true_eq]
      show (l ++ [_, _])[l.length + 1]? = _
      simp)
    (fun t x ρ1 S' hx ⟨v10, v13, e1, e2⟩ => by
      subst e1 e2
      obtain ⟨st, b, rfl, hw⟩ := hr x (List.mem_of_getElem? hx)
      have hw2 : ∀ S, callN Fs 19 2 [st] S = .ok (.bl b) S := fun S => hw 18 S
      have his : ∀ a b S, callN Fs 19 5 [.bl a, .bl b] S = .ok (.bl (decide (a = b))) S := fun a b S => is_ok 18 a b S
      refine ⟨[some (.ref 0), some (.ref 1), v2, r3, r4, r5, r6, r7, r8, r9, some (.bl b), r11, r12, some st], _, ?_, some (.bl b), some st, rfl, rfl⟩
      simp [asgO, asgT, asgT.asgTs, b_law_1, varR, hw2, his])
  obtain ⟨S3, e4⟩ := fin_any (S := [Cell.ro (ns.map D.int)]) (d := .bl true) rfl S2
  refine ⟨S3, ?_⟩
  obtain ⟨v10, v13, rfl, rfl⟩ := h3
  simp only [dl] at e1
  have hf : run (callN Fs 19) c_law [some (.ref 0), none, none, none, none, none, none, none, none, none, none, none, none, none] [Cell.ro (ns.map D.int)] = .ret (.bl true) (Cell.ro (ns.map D.int) :: .lst (ds.map D.int) :: (l ++ [.lst ((ds.drop 24).map D.int), .lst rows])) := by
    unfold c_law
    have e1' := e1
    have hl2 : ∀ l2 : List Cell, (Cell.ro (ns.map D.int) :: .lst (ds.map D.int) :: l2)[1]? = some (.lst (ds.map D.int)) := fun _ => rfl
    have hit : itD (.ref (l.length + 3)) (Cell.ro (ns.map D.int) :: .lst (ds.map D.int) :: (l ++ [.lst ((ds.drop 24).map D.int), .lst rows])) = .ok ⟨rows, some (l.length + 3, .lst rows)⟩ (Cell.ro (ns.map D.int) :: .lst (ds.map D.int) :: (l ++ [.lst ((ds.drop 24).map D.int), .lst rows])) :=
      itD_lst (n := l.length + 3) (ds := rows) (by show (l ++ [_, _])[l.length + 1]? = _; simp)
    have g1 : ∀ r, run (callN Fs 19) (.seq (.asg (.var 1) (.call 3 (.cons (.var 0) (.cons (.int 40) .nil)))) r) [some (.ref 0), none, none, none, none, none, none, none, none, none, none, none, none, none] [Cell.ro (ns.map D.int)] =
        run (callN Fs 19) r [some (.ref 0), some (.ref 1), none, none, none, none, none, none, none, none, none, none, none, none] [Cell.ro (ns.map D.int), .lst (ds.map D.int)] := fun r => by
      simp [varR, ed']
    have g2 : ∀ r, run (callN Fs 19) (.seq (.for (.var 2) (.rng (.cons (.int 3) .nil)) b_law_2) r) [some (.ref 0), some (.ref 1), none, none, none, none, none, none, none, none, none, none, none, none] [Cell.ro (ns.map D.int), .lst (ds.map D.int)] =
        run (callN Fs 19) r [some (.ref 0), some (.ref 1), v2, r3, r4, r5, r6, r7, r8, r9, r10, r11, r12, r13] (Cell.ro (ns.map D.int) :: .lst (ds.map D.int) :: l) := fun r => by
      simp only [run_seq, run_for, itr_rng, evs_cons, ev_int, bind_ok, evs_nil, rngR1 3 (by decide), of_ok, asgO_var, seq_nx]
      rw [show ((3 : Int).toNat) = 3 from rfl, e1', seq_nx]
    have g3 : itr (callN Fs 19) (.call 6 (.cons (.slc (.var 1) (.int 24) .nil) .nil)) [some (.ref 0), some (.ref 1), v2, r3, r4, r5, r6, r7, r8, r9, r10, r11, r12, r13] (Cell.ro (ns.map D.int) :: .lst (ds.map D.int) :: l) = .ok ⟨rows, some (l.length + 3, .lst rows)⟩ (Cell.ro (ns.map D.int) :: .lst (ds.map D.int) :: (l ++ [.lst ((ds.drop 24).map D.int), .lst rows])) := by
      have e0 : slc2 (.ref 1) (some 24) none (Cell.ro (ns.map D.int) :: .lst (ds.map D.int) :: l) = .ok (.ref (l.length + 2)) (Cell.ro (ns.map D.int) :: .lst (ds.map D.int) :: (l ++ [.lst ((ds.drop 24).map D.int)])) := by
        rw [slc_lst (hl2 l), hcut]; rfl
      simp only [itr_call, ev_call, evs_cons, ev_slc, ev_var, varR, List.getElem?_cons_succ, List.getElem?_cons_zero, bind_ok, evo_int, evo_nil, evs_nil, e0, er', hit]
    rw [g1, g2, run_seq, run_for, g3, of_ok, e3]
    simp
  rw [hf, finO_ret, e4]
end
end Lw

set_option Elab.async false
set_option linter.all false
set_option maxRecDepth 100000
set_option maxHeartbeats 8000000
namespace Lw
open PySem L2 Ng

set_option maxRecDepth 100000 in
theorem texts_ok : (Ts.all (textC (Ts.map (·.x)) glbs blts)) = true := by decide +kernel
theorem facts {K : PySem.W.Frag} {h : Heap} {mg : Str → Option Value} (X : K.In h) (G : h.Ns mainGlobals mg)
    {f0 : Addr} {od0 an0 : Option Addr} {sl0 : Array (Option Value)} {oc0 kV0 dc0 pm0 cd0 ct0 : Value} (a0 : PySem.W.nsIn K mainGlobals "apart" = some (some (.ref f0))) (l0 : K.lookup f0 = some ⟨oc0, od0, .func (PySem.W.fnOf "apart" "apart" (defArgs t_apart.st) (defBody t_apart.st) (defScope t_apart.st) .none kV0 dc0 pm0 an0 cd0 ct0), sl0⟩) (c0 : PySem.W.codeIn K cd0 "apart" = true) (k0 : PySem.W.keepIn K (.ref f0) = true)
    {f1 : Addr} {od1 an1 : Option Addr} {sl1 : Array (Option Value)} {oc1 kV1 dc1 pm1 cd1 ct1 : Value} (a1 : PySem.W.nsIn K mainGlobals "moved_box" = some (some (.ref f1))) (l1 : K.lookup f1 = some ⟨oc1, od1, .func (PySem.W.fnOf "moved_box" "moved_box" (defArgs t_moved_box.st) (defBody t_moved_box.st) (defScope t_moved_box.st) .none kV1 dc1 pm1 an1 cd1 ct1), sl1⟩) (c1 : PySem.W.codeIn K cd1 "moved_box" = true) (k1 : PySem.W.keepIn K (.ref f1) = true)
    {f2 : Addr} {od2 an2 : Option Addr} {sl2 : Array (Option Value)} {oc2 kV2 dc2 pm2 cd2 ct2 : Value} (a2 : PySem.W.nsIn K mainGlobals "is_barrier" = some (some (.ref f2))) (l2 : K.lookup f2 = some ⟨oc2, od2, .func (PySem.W.fnOf "is_barrier" "is_barrier" (defArgs t_is_barrier.st) (defBody t_is_barrier.st) (defScope t_is_barrier.st) .none kV2 dc2 pm2 an2 cd2 ct2), sl2⟩) (c2 : PySem.W.codeIn K cd2 "is_barrier" = true) (k2 : PySem.W.keepIn K (.ref f2) = true)
    {f3 : Addr} {od3 an3 : Option Addr} {sl3 : Array (Option Value)} {oc3 kV3 dc3 pm3 cd3 ct3 : Value} (a3 : PySem.W.nsIn K mainGlobals "_law_draws" = some (some (.ref f3))) (l3 : K.lookup f3 = some ⟨oc3, od3, .func (PySem.W.fnOf "_law_draws" "_law_draws" (defArgs t_law_draws.st) (defBody t_law_draws.st) (defScope t_law_draws.st) .none kV3 dc3 pm3 an3 cd3 ct3), sl3⟩) (c3 : PySem.W.codeIn K cd3 "_law_draws" = true) (k3 : PySem.W.keepIn K (.ref f3) = true)
    {f4 : Addr} {od4 an4 : Option Addr} {sl4 : Array (Option Value)} {oc4 kV4 dc4 pm4 cd4 ct4 : Value} (a4 : PySem.W.nsIn K mainGlobals "_law_near" = some (some (.ref f4))) (l4 : K.lookup f4 = some ⟨oc4, od4, .func (PySem.W.fnOf "_law_near" "_law_near" (defArgs t_law_near.st) (defBody t_law_near.st) (defScope t_law_near.st) .none kV4 dc4 pm4 an4 cd4 ct4), sl4⟩) (c4 : PySem.W.codeIn K cd4 "_law_near" = true) (k4 : PySem.W.keepIn K (.ref f4) = true)
    {f5 : Addr} {od5 an5 : Option Addr} {sl5 : Array (Option Value)} {oc5 kV5 dc5 pm5 cd5 ct5 : Value} (a5 : PySem.W.nsIn K mainGlobals "_law_is" = some (some (.ref f5))) (l5 : K.lookup f5 = some ⟨oc5, od5, .func (PySem.W.fnOf "_law_is" "_law_is" (defArgs t_law_is.st) (defBody t_law_is.st) (defScope t_law_is.st) .none kV5 dc5 pm5 an5 cd5 ct5), sl5⟩) (c5 : PySem.W.codeIn K cd5 "_law_is" = true) (k5 : PySem.W.keepIn K (.ref f5) = true)
    {f6 : Addr} {od6 an6 : Option Addr} {sl6 : Array (Option Value)} {oc6 kV6 dc6 pm6 cd6 ct6 : Value} (a6 : PySem.W.nsIn K mainGlobals "_law_states" = some (some (.ref f6))) (l6 : K.lookup f6 = some ⟨oc6, od6, .func (PySem.W.fnOf "_law_states" "_law_states" (defArgs t_law_states.st) (defBody t_law_states.st) (defScope t_law_states.st) .none kV6 dc6 pm6 an6 cd6 ct6), sl6⟩) (c6 : PySem.W.codeIn K cd6 "_law_states" = true) (k6 : PySem.W.keepIn K (.ref f6) = true)
    {f7 : Addr} {od7 an7 : Option Addr} {sl7 : Array (Option Value)} {oc7 kV7 dc7 pm7 cd7 ct7 : Value} (a7 : PySem.W.nsIn K mainGlobals "law" = some (some (.ref f7))) (l7 : K.lookup f7 = some ⟨oc7, od7, .func (PySem.W.fnOf "law" "law" (defArgs t_law.st) (defBody t_law.st) (defScope t_law.st) .none kV7 dc7 pm7 an7 cd7 ct7), sl7⟩) (c7 : PySem.W.codeIn K cd7 "law" = true) (k7 : PySem.W.keepIn K (.ref f7) = true)
    (z0 : PySem.W.nsIn K mainGlobals "abs" = some none)
    (z1 : PySem.W.nsIn K mainGlobals "bool" = some none)
    (z2 : PySem.W.nsIn K mainGlobals "int" = some none)
    (z3 : PySem.W.nsIn K mainGlobals "isinstance" = some none)
    (z4 : PySem.W.nsIn K mainGlobals "len" = some none)
    (z5 : PySem.W.nsIn K mainGlobals "max" = some none)
    (z6 : PySem.W.nsIn K mainGlobals "range" = some none) :
    Facts K mg Ts glbs blts := by
  refine ⟨?_, ?_, ?_⟩
  · simp only [Ts, List.forall_mem_cons]
    refine ⟨?_, ?_, ?_, ?_, ?_, ?_, ?_, ?_, fun _ h => nomatch h⟩
    · exact ⟨f0, _, fun_mk (st := t_apart.st) l0 c0 k0, PySem.W.mg_of X G a0, k0, (fun_mk (st := t_apart.st) l0 c0 k0).binds (ps := t_apart.ps) fun _ _ _ _ _ _ us hl => match us, hl with | [_, _], _ => rfl⟩
    · exact ⟨f1, _, fun_mk (st := t_moved_box.st) l1 c1 k1, PySem.W.mg_of X G a1, k1, (fun_mk (st := t_moved_box.st) l1 c1 k1).binds (ps := t_moved_box.ps) fun _ _ _ _ _ _ us hl => match us, hl with | [_, _, _], _ => rfl⟩
    · exact ⟨f2, _, fun_mk (st := t_is_barrier.st) l2 c2 k2, PySem.W.mg_of X G a2, k2, (fun_mk (st := t_is_barrier.st) l2 c2 k2).binds (ps := t_is_barrier.ps) fun _ _ _ _ _ _ us hl => match us, hl with | [_], _ => rfl⟩
    · exact ⟨f3, _, fun_mk (st := t_law_draws.st) l3 c3 k3, PySem.W.mg_of X G a3, k3, (fun_mk (st := t_law_draws.st) l3 c3 k3).binds (ps := t_law_draws.ps) fun _ _ _ _ _ _ us hl => match us, hl with | [_, _], _ => rfl⟩
    · exact ⟨f4, _, fun_mk (st := t_law_near.st) l4 c4 k4, PySem.W.mg_of X G a4, k4, (fun_mk (st := t_law_near.st) l4 c4 k4).binds (ps := t_law_near.ps) fun _ _ _ _ _ _ us hl => match us, hl with | [_, _], _ => rfl⟩
    · exact ⟨f5, _, fun_mk (st := t_law_is.st) l5 c5 k5, PySem.W.mg_of X G a5, k5, (fun_mk (st := t_law_is.st) l5 c5 k5).binds (ps := t_law_is.ps) fun _ _ _ _ _ _ us hl => match us, hl with | [_, _], _ => rfl⟩
    · exact ⟨f6, _, fun_mk (st := t_law_states.st) l6 c6 k6, PySem.W.mg_of X G a6, k6, (fun_mk (st := t_law_states.st) l6 c6 k6).binds (ps := t_law_states.ps) fun _ _ _ _ _ _ us hl => match us, hl with | [_], _ => rfl⟩
    · exact ⟨f7, _, fun_mk (st := t_law.st) l7 c7 k7, PySem.W.mg_of X G a7, k7, (fun_mk (st := t_law.st) l7 c7 k7).binds (ps := t_law.ps) fun _ _ _ _ _ _ us hl => match us, hl with | [_], _ => rfl⟩
  · simp only [glbs, List.forall_mem_cons]
    exact fun _ h => nomatch h
  · simp only [blts, List.forall_mem_cons]
    exact ⟨PySem.W.mg_none_of X G z0, PySem.W.mg_none_of X G z1, PySem.W.mg_none_of X G z2, PySem.W.mg_none_of X G z3, PySem.W.mg_none_of X G z4, PySem.W.mg_none_of X G z5, PySem.W.mg_none_of X G z6, fun _ h => nomatch h⟩
theorem facts2 {K : PySem.W.Frag} {h : Heap} {mg : Str → Option Value} {fa : Addr} (X : K.In h) (G : h.Ns mainGlobals mg) (hfa : mg "law" = some (.ref fa))
    {f0 : Addr} {od0 an0 : Option Addr} {sl0 : Array (Option Value)} {oc0 kV0 dc0 pm0 cd0 ct0 : Value} (a0 : PySem.W.nsIn K mainGlobals "apart" = some (some (.ref f0))) (l0 : K.lookup f0 = some ⟨oc0, od0, .func (PySem.W.fnOf "apart" "apart" (defArgs t_apart.st) (defBody t_apart.st) (defScope t_apart.st) .none kV0 dc0 pm0 an0 cd0 ct0), sl0⟩) (c0 : PySem.W.codeIn K cd0 "apart" = true) (k0 : PySem.W.keepIn K (.ref f0) = true)
    {f1 : Addr} {od1 an1 : Option Addr} {sl1 : Array (Option Value)} {oc1 kV1 dc1 pm1 cd1 ct1 : Value} (a1 : PySem.W.nsIn K mainGlobals "moved_box" = some (some (.ref f1))) (l1 : K.lookup f1 = some ⟨oc1, od1, .func (PySem.W.fnOf "moved_box" "moved_box" (defArgs t_moved_box.st) (defBody t_moved_box.st) (defScope t_moved_box.st) .none kV1 dc1 pm1 an1 cd1 ct1), sl1⟩) (c1 : PySem.W.codeIn K cd1 "moved_box" = true) (k1 : PySem.W.keepIn K (.ref f1) = true)
    {f2 : Addr} {od2 an2 : Option Addr} {sl2 : Array (Option Value)} {oc2 kV2 dc2 pm2 cd2 ct2 : Value} (a2 : PySem.W.nsIn K mainGlobals "is_barrier" = some (some (.ref f2))) (l2 : K.lookup f2 = some ⟨oc2, od2, .func (PySem.W.fnOf "is_barrier" "is_barrier" (defArgs t_is_barrier.st) (defBody t_is_barrier.st) (defScope t_is_barrier.st) .none kV2 dc2 pm2 an2 cd2 ct2), sl2⟩) (c2 : PySem.W.codeIn K cd2 "is_barrier" = true) (k2 : PySem.W.keepIn K (.ref f2) = true)
    {f3 : Addr} {od3 an3 : Option Addr} {sl3 : Array (Option Value)} {oc3 kV3 dc3 pm3 cd3 ct3 : Value} (a3 : PySem.W.nsIn K mainGlobals "_law_draws" = some (some (.ref f3))) (l3 : K.lookup f3 = some ⟨oc3, od3, .func (PySem.W.fnOf "_law_draws" "_law_draws" (defArgs t_law_draws.st) (defBody t_law_draws.st) (defScope t_law_draws.st) .none kV3 dc3 pm3 an3 cd3 ct3), sl3⟩) (c3 : PySem.W.codeIn K cd3 "_law_draws" = true) (k3 : PySem.W.keepIn K (.ref f3) = true)
    {f4 : Addr} {od4 an4 : Option Addr} {sl4 : Array (Option Value)} {oc4 kV4 dc4 pm4 cd4 ct4 : Value} (a4 : PySem.W.nsIn K mainGlobals "_law_near" = some (some (.ref f4))) (l4 : K.lookup f4 = some ⟨oc4, od4, .func (PySem.W.fnOf "_law_near" "_law_near" (defArgs t_law_near.st) (defBody t_law_near.st) (defScope t_law_near.st) .none kV4 dc4 pm4 an4 cd4 ct4), sl4⟩) (c4 : PySem.W.codeIn K cd4 "_law_near" = true) (k4 : PySem.W.keepIn K (.ref f4) = true)
    {f5 : Addr} {od5 an5 : Option Addr} {sl5 : Array (Option Value)} {oc5 kV5 dc5 pm5 cd5 ct5 : Value} (a5 : PySem.W.nsIn K mainGlobals "_law_is" = some (some (.ref f5))) (l5 : K.lookup f5 = some ⟨oc5, od5, .func (PySem.W.fnOf "_law_is" "_law_is" (defArgs t_law_is.st) (defBody t_law_is.st) (defScope t_law_is.st) .none kV5 dc5 pm5 an5 cd5 ct5), sl5⟩) (c5 : PySem.W.codeIn K cd5 "_law_is" = true) (k5 : PySem.W.keepIn K (.ref f5) = true)
    {f6 : Addr} {od6 an6 : Option Addr} {sl6 : Array (Option Value)} {oc6 kV6 dc6 pm6 cd6 ct6 : Value} (a6 : PySem.W.nsIn K mainGlobals "_law_states" = some (some (.ref f6))) (l6 : K.lookup f6 = some ⟨oc6, od6, .func (PySem.W.fnOf "_law_states" "_law_states" (defArgs t_law_states.st) (defBody t_law_states.st) (defScope t_law_states.st) .none kV6 dc6 pm6 an6 cd6 ct6), sl6⟩) (c6 : PySem.W.codeIn K cd6 "_law_states" = true) (k6 : PySem.W.keepIn K (.ref f6) = true)
    {f7 : Addr} {od7 an7 : Option Addr} {sl7 : Array (Option Value)} {oc7 kV7 dc7 pm7 cd7 ct7 : Value} (a7 : PySem.W.nsIn K mainGlobals "law" = some (some (.ref f7))) (l7 : K.lookup f7 = some ⟨oc7, od7, .func (PySem.W.fnOf "law" "law" (defArgs t_law.st) (defBody t_law.st) (defScope t_law.st) .none kV7 dc7 pm7 an7 cd7 ct7), sl7⟩) (c7 : PySem.W.codeIn K cd7 "law" = true) (k7 : PySem.W.keepIn K (.ref f7) = true)
    (z0 : PySem.W.nsIn K mainGlobals "abs" = some none)
    (z1 : PySem.W.nsIn K mainGlobals "bool" = some none)
    (z2 : PySem.W.nsIn K mainGlobals "int" = some none)
    (z3 : PySem.W.nsIn K mainGlobals "isinstance" = some none)
    (z4 : PySem.W.nsIn K mainGlobals "len" = some none)
    (z5 : PySem.W.nsIn K mainGlobals "max" = some none)
    (z6 : PySem.W.nsIn K mainGlobals "range" = some none) :
    Facts K mg Ts glbs blts ∧ ∃ fd, Fun K t_law.x t_law.x t_law.st fa fd ∧ ∀ (s : Shared) (u : Value), BindsTo s fd ⟨[u], []⟩ [("_law_script", u)] := by
  have e := hfa.symm.trans (PySem.W.mg_of X G a7)
  cases e
  exact ⟨facts X G a0 l0 c0 k0 a1 l1 c1 k1 a2 l2 c2 k2 a3 l3 c3 k3 a4 l4 c4 k4 a5 l5 c5 k5 a6 l6 c6 k6 a7 l7 c7 k7 z0 z1 z2 z3 z4 z5 z6, _, fun_mk (st := t_law.st) l7 c7 k7, fun s u => .of_eq rfl⟩
end Lw
open PySem PySem.W PyProof.Rows
set_option maxRecDepth 100000 in
set_option maxHeartbeats 0 in
theorem PySem.Challenge.cw_ramet_k60_boxes_and_walls_holds : PySem.Challenge.rw_ramet_k60_boxes_and_walls.Holds := by
  w_on; o_law; k_head; (case hw => w_witness2)
  k_fill
  refine Ng.law_walk (l := PySem.Challenge.rw_ramet_k60_boxes_and_walls) (γ := Lw.gam) (Ts := Lw.Ts) (glb := Lw.glbs) (blt := Lw.blts) (k := 20) (f := 7) (t := Lw.t_law) (x := "_law_script") rfl rfl ⟨rfl, by decide, by decide⟩ (fun w h Y => PySem.W.kIn_of Y) Lw.texts_ok rfl rfl ?F Lw.law_true
  case F =>
    intro w mg fa h KX G hmg
    refine' Lw.facts2 KX G hmg ?qy_a0 ?qy_l0 ?qy_c0 ?qy_k0 ?qy_a1 ?qy_l1 ?qy_c1 ?qy_k1 ?qy_a2 ?qy_l2 ?qy_c2 ?qy_k2 ?qy_a3 ?qy_l3 ?qy_c3 ?qy_k3 ?qy_a4 ?qy_l4 ?qy_c4 ?qy_k4 ?qy_a5 ?qy_l5 ?qy_c5 ?qy_k5 ?qy_a6 ?qy_l6 ?qy_c6 ?qy_k6 ?qy_a7 ?qy_l7 ?qy_c7 ?qy_k7 ?qy_z0 ?qy_z1 ?qy_z2 ?qy_z3 ?qy_z4 ?qy_z5 ?qy_z6
    (case qy_a0 => k_is)
    (case qy_l0 => k_is)
    (case qy_c0 => k_is)
    (case qy_k0 => k_is)
    (case qy_a1 => k_is)
    (case qy_l1 => k_is)
    (case qy_c1 => k_is)
    (case qy_k1 => k_is)
    (case qy_a2 => k_is)
    (case qy_l2 => k_is)
    (case qy_c2 => k_is)
    (case qy_k2 => k_is)
    (case qy_a3 => k_is)
    (case qy_l3 => k_is)
    (case qy_c3 => k_is)
    (case qy_k3 => k_is)
    (case qy_a4 => k_is)
    (case qy_l4 => k_is)
    (case qy_c4 => k_is)
    (case qy_k4 => k_is)
    (case qy_a5 => k_is)
    (case qy_l5 => k_is)
    (case qy_c5 => k_is)
    (case qy_k5 => k_is)
    (case qy_a6 => k_is)
    (case qy_l6 => k_is)
    (case qy_c6 => k_is)
    (case qy_k6 => k_is)
    (case qy_a7 => k_is)
    (case qy_l7 => k_is)
    (case qy_c7 => k_is)
    (case qy_k7 => k_is)
    (case qy_z0 => k_is)
    (case qy_z1 => k_is)
    (case qy_z2 => k_is)
    (case qy_z3 => k_is)
    (case qy_z4 => k_is)
    (case qy_z5 => k_is)
    (case qy_z6 => k_is)

