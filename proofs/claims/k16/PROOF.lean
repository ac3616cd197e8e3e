import PyProof.Rows.All
import Wide.All
import OpenK.AllK
import Wide.FinOn
import HandS.ForMost
import HandS.Nested
import HandS.TupAny
import HandS.Wide
import HandS.Style
import HandS.Deep
import HandS.IsInst
import HandS.WideBits
import HandS.RaiseMore
import HandS.Replace
import HandS.CallSlots
import HandS.ExcOwn
import HandS.WordsExc
import HandS.ExcCtx
import HandS.Walk
import HandS.Zip
import HandS.Defaults
import HandS.Lambda
import HandS.Strs
import HandS.SetFor
import HandS.ExcInit
import KE.KExcSuper
import HandS.HeadWalk
import KE.KDflt
import HandS.ExcIs
import HandS.ExcField
import HandS.HotCalls
import HandS.HeadHook1
import HandS.HeadHook2
import HandS.HeadHook4
import HandS.EndTab
import HandS.NestedK
import PyProof.ReprRoads
import PyProof.ReprBulk
import PyProof.ReprLen
import KE.KStateDown
import Lean
import HandS.Base
import HandS.Call
import HandS.Ends
import HandS.More
import HandS.Head0
import HandS.Head1
import HandS.Head2
import HandS.HeadEnd
import HandS.HeadHook3
import HandS.Words
import PySem.Challenge.RW_rowbits_k16_whole_guards
/-! Plain data, a plain store, and what the small language of the walks makes of them. No program in sight. -/
namespace RB

/-- plain data: what the program's values are -/
inductive D where
  | non | bl (b : Bool) | int (i : Int) | str (s : List Nat)
  | tup (xs : List D) | lst (xs : List D)
  | dic (ks : List (Int ⊕ List Nat)) (vs : List D)
  | obj (c : Nat) (vs : List D)
  | fn (f : Nat)
  | clo (l : Nat) (vs : List D)
  | ref (n : Nat)
  | scr (ns : List Int)
  deriving Inhabited

abbrev Env := List (Option D)
/-- what stands in the store: a list that several hold -/
inductive SO where
  | lst (xs : List D)
  | ins (c : Nat) (vs : List D)
abbrev Store := List SO

inductive R (α : Type) where
  | ok (a : α) (S : Store)
  | ex (c : Nat) (vs : List D) (S : Store)
  | no

def R.bind {α β : Type} (r : R α) (f : α → Store → R β) : R β := match r with
  | .ok a S => f a S
  | .ex c vs S => .ex c vs S
  | .no => .no

def R.of {α : Type} (o : Option α) (S : Store) : R α := match o with
  | some a => .ok a S
  | none => .no

@[simp] theorem bind_ok {α β : Type} (a : α) (S : Store) (f : α → Store → R β) : (R.ok a S).bind f = f a S := rfl
@[simp] theorem bind_ex {α β : Type} (c : Nat) (vs : List D) (S : Store) (f : α → Store → R β) : (R.ex c vs S).bind f = .ex c vs S := rfl
@[simp] theorem bind_no {α β : Type} (f : α → Store → R β) : (R.no).bind f = .no := rfl
@[simp] theorem of_some {α : Type} (a : α) (S : Store) : R.of (some a) S = .ok a S := rfl
@[simp] theorem of_none {α : Type} (S : Store) : R.of (none : Option α) S = .no := rfl

/-- the greatest length that is looked at -/
abbrev LIM : Nat := 1000000

/-! ### equality of data -/
mutual
/-- == of plain data -/
def pyEq : D → D → Bool
  | .non, .non => true
  | .bl a, .bl b => a == b
  | .bl a, .int j => (if a then 1 else 0) == j
  | .int i, .bl b => i == (if b then 1 else 0)
  | .int i, .int j => i == j
  | .str x, .str y => x == y
  | .lst xs, .lst ys => pyEqs xs ys
  | .tup xs, .tup ys => pyEqs xs ys
  | _, _ => false
def pyEqs : List D → List D → Bool
  | [], [] => true
  | x :: xs, y :: ys => pyEq x y && pyEqs xs ys
  | _, _ => false
end

mutual
/-- plain data of at most so many levels, its texts of true signs -/
def fine : Nat → D → Bool
  | _, .non => true
  | _, .bl _ => true
  | _, .int _ => true
  | _, .str s => s.all fun c => decide (c < 1114112)
  | 0, _ => false
  | n + 1, .lst xs => fines n xs
  | n + 1, .tup xs => fines n xs
  | _, _ => false
def fines : Nat → List D → Bool
  | _, [] => true
  | n, x :: xs => fine n x && fines n xs
end

/-- no list, no tuple -/
def flat : D → Bool
  | .non => true
  | .bl _ => true
  | .int _ => true
  | .str _ => true
  | _ => false

def eqD (x y : D) : Option Bool := if flat x && flat y then some (pyEq x y) else if fine 60 x && fine 60 y then some (pyEq x y) else none

/-! ### places -/
def ixOf (n : Nat) (i : Int) : Option Nat := if 0 ≤ i then (if i < n then some i.toNat else none) else if -(n : Int) ≤ i then some (i + n).toNat else none
def at? {α : Type} (xs : List α) (i : Int) : Option α := (ixOf xs.length i).bind fun j => xs[j]?
def cutIx (n d : Nat) : Option Int → Nat
  | none => d
  | some v => if v < 0 then (v + (n : Int)).toNat else min v.toNat n
def cut {α : Type} (xs : List α) (lo hi : Option Int) : List α := (xs.drop (cutIx xs.length 0 lo)).take (cutIx xs.length xs.length hi - cutIx xs.length 0 lo)

/-! ### operators -/
inductive BOp where
  | add | sub | mul | fdiv | mod | pow | shl | shr | xor | band
  deriving DecidableEq
inductive COp where
  | eq | ne | lt | le | gt | ge | inn | nin | iss | isn
  deriving DecidableEq

/-- two ints that may be multiplied -/
def mulOk (i j : Int) : Bool := decide (i.natAbs < 2 ^ 64) || decide (j.natAbs < 2 ^ 64) || decide (i.natAbs.log2 + j.natAbs.log2 < 900000)
def rep {α : Type} (n : Nat) (xs : List α) : List α := (List.replicate n xs).flatten

def bin : BOp → D → D → Option D
  | .add, .int i, .int j => some (.int (i + j))
  | .add, .str x, .str y => if x.length + y.length ≤ LIM then some (.str (x ++ y)) else none
  | .add, .tup x, .tup y => if x.length + y.length ≤ LIM then some (.tup (x ++ y)) else none
  | .add, .lst x, .lst y => if x.length + y.length ≤ LIM then some (.lst (x ++ y)) else none
  | .sub, .int i, .int j => some (.int (i - j))
  | .mul, .int i, .int j => if mulOk i j then some (.int (i * j)) else none
  | .mul, .lst x, .int j => if x.length * j.toNat ≤ LIM ∧ j.natAbs ≤ LIM then some (.lst (rep j.toNat x)) else none
  | .mul, .tup _, .int _ => none
  | .mul, .str x, .int j => if x.length * j.toNat ≤ LIM ∧ j.natAbs ≤ LIM then some (.str (rep j.toNat x)) else none
  | .fdiv, .int i, .int j => if 0 < j ∧ j < 1073741824 then some (.int (i / j)) else none
  | .mod, .int i, .int j => if 0 < j then some (.int (i % j)) else none
  | .pow, .int i, .int j => if 0 ≤ j ∧ j ≤ 1000000 ∧ i.natAbs < 2 ^ 64 then some (.int (i ^ j.toNat)) else none
  | .shl, .int i, .int j => if 0 ≤ j ∧ j ≤ 1000000 ∧ i.natAbs < 2 ^ 64 then some (.int (i * 2 ^ j.toNat)) else none
  | .shr, .int i, .int j => if 0 ≤ j then some (.int (i / 2 ^ j.toNat)) else none
  | .xor, .int i, .int j => if 0 ≤ i ∧ 0 ≤ j then some (.int ((Nat.xor i.toNat j.toNat : Nat) : Int)) else none
  | .band, .int i, .int j => if 0 ≤ i ∧ 0 ≤ j then some (.int ((Nat.land i.toNat j.toNat : Nat) : Int)) else none
  | _, _, _ => none

/-- x in xs, by == -/
def memD (x : D) (xs : List D) : Option Bool := if flat x && xs.all flat then some (xs.any fun y => pyEq y x) else if fine 60 x && fines 60 xs then some (xs.any fun y => pyEq y x) else none
def keyOf : D → Option (Int ⊕ List Nat)
  | .int i => some (.inl i)
  | .str s => some (.inr s)
  | _ => none
def lookK (k : Int ⊕ List Nat) : List (Int ⊕ List Nat) → List D → Option D
  | k' :: ks, v :: vs => if k = k' then some v else lookK k ks vs
  | _, _ => none
def memF (x : D) (xs : List D) : Option Bool := if flat x && xs.all flat then some (xs.any fun y => pyEq y x) else none
def inD (x : D) : D → Option Bool
  | .lst xs => memD x xs
  | .tup xs => memF x xs
  | .str s => match x with
    | .str [c] => some (s.contains c)
    | _ => none
  | _ => none
/-- code points, from the left -/
def strLt : List Nat → List Nat → Bool
  | _, [] => false
  | [], _ :: _ => true
  | x :: xs, y :: ys => decide (x < y) || (x == y && strLt xs ys)
/-- is, of None and of truth values -/
def isD : D → D → Option Bool
  | x, .non => some (match x with | .non => true | _ => false)
  | .bl a, .bl b => some (a == b)
  | _, _ => none
def cmpD : COp → D → D → Option Bool
  | .eq, x, y => eqD x y
  | .ne, x, y => (eqD x y).map not
  | .lt, .int i, .int j => some (decide (i < j))
  | .le, .int i, .int j => some (decide (i ≤ j))
  | .gt, .int i, .int j => some (decide (j < i))
  | .ge, .int i, .int j => some (decide (j ≤ i))
  | .lt, .str x, .str y => some (strLt x y)
  | .inn, x, y => inD x y
  | .nin, x, y => (inD x y).map not
  | .iss, x, y => isD x y
  | .isn, x, y => (isD x y).map not
  | _, _, _ => none

/-! ### what is built in -/
inductive Ty where
  | int | bool | str | tuple | list
  deriving DecidableEq
def isTy : D → Ty → Bool
  | .int _, .int => true
  | .bl _, .int => true
  | .bl _, .bool => true
  | .str _, .str => true
  | .tup _, .tuple => true
  | .lst _, .list => true
  | _, _ => false
/-- has it a type that is known here? -/
def typed : D → Bool
  | .non => true
  | .bl _ => true
  | .int _ => true
  | .str _ => true
  | .tup _ => true
  | .lst _ => true
  | _ => false

def blsOf : List D → Option (List Bool)
  | [] => some []
  | .bl b :: r => (blsOf r).map (b :: ·)
  | _ => none
def intsOf : List D → Option (List Int)
  | [] => some []
  | .int i :: r => (intsOf r).map (i :: ·)
  | _ => none
def strsOf : List D → Option (List (List Nat))
  | [] => some []
  | .str s :: r => (strsOf r).map (s :: ·)
  | _ => none
def signsOf (s : List Nat) : List D := s.map fun c => .str [c]
def maxOf : List Int → Int
  | [] => 0
  | [x] => x
  | x :: r => max x (maxOf r)
def joinS (sep : List Nat) : List (List Nat) → List Nat
  | [] => []
  | [x] => x
  | x :: y :: r => x ++ (sep ++ joinS sep (y :: r))
def codes (s : String) : List Nat := s.toList.map Char.toNat
def intText (i : Int) : List Nat := codes (toString i)
/-- the number that a text of one figure tells -/
def figure : List Nat → Option Int
  | [c] => if 48 ≤ c ∧ c ≤ 57 then some ((c : Int) - 48) else none
  | _ => none
def bitLen (i : Int) : Int := if i.natAbs = 0 then 0 else (i.natAbs.log2 : Int) + 1
def insertI (x : Int) : List Int → List Int
  | [] => [x]
  | y :: r => if x < y then x :: y :: r else if x = y then y :: r else y :: insertI x r
/-- rising, each once -/
def risingOf : List Int → List Int
  | [] => []
  | x :: r => insertI x (risingOf r)

inductive Bi where
  | len | all | sum | max | str | int | tuple | list | bitlen | sortset
  deriving DecidableEq
def bi : Bi → D → Option D
  | .len, .str s => if s.length ≤ LIM then some (.int s.length) else none
  | .len, .tup s => some (.int s.length)
  | .len, .lst s => some (.int s.length)
  | .len, .scr s => some (.int s.length)
  | .all, .lst xs => (blsOf xs).map fun bs => .bl (bs.all id)
  | .sum, .lst xs => (intsOf xs).map fun ns => .int ns.sum
  | .max, .lst xs => (intsOf xs).bind fun ns => if ns = [] then none else some (.int (maxOf ns))
  | .str, .int i => if i.natAbs < 2 ^ 64 then some (.str (intText i)) else none
  | .str, .str s => some (.str s)
  | .int, .int i => some (.int i)
  | .int, .str s => (figure s).map .int
  | .tuple, .tup xs => some (.tup xs)
  | .tuple, .lst xs => some (.tup xs)
  | .list, .lst xs => some (.lst xs)
  | .list, .tup xs => some (.lst xs)
  | .bitlen, .int i => some (.int (bitLen i))
  | .sortset, .lst xs => (intsOf xs).bind fun ns => if ns.length ≤ 60 then some (.lst ((risingOf ns).map .int)) else none
  | _, _ => none
inductive Bi2 where
  | min | max | join | index | count | range
  deriving DecidableEq
def placeD (x : D) (xs : List D) : Option Nat := xs.findIdx? fun y => pyEq y x
def upto (a : Int) (n : Nat) : List D := (List.range n).map fun k => .int (a + (k : Nat))
def bi2 : Bi2 → D → D → Option D
  | .min, .int i, .int j => some (.int (if j < i then j else i))
  | .max, .int i, .int j => some (.int (if j > i then j else i))
  | .join, .str z, .lst xs => (strsOf xs).bind fun ss => if (ss.map List.length).sum + ss.length * z.length ≤ LIM then some (.str (joinS z ss)) else none
  | .index, .lst xs, x => if flat x && xs.all flat then (placeD x xs).map fun (j : Nat) => D.int (j : Int) else none
  | .index, .str s, .str [c] => (s.findIdx? fun k => k == c).map fun (j : Nat) => D.int (j : Int)
  | .count, .lst xs, .bl true => (blsOf xs).map fun bs => .int (bs.count true)
  | .range, .int i, .int j => if i.natAbs ≤ LIM ∧ j.natAbs ≤ LIM then some (.lst (upto i (j - i).toNat)) else none
  | _, _, _ => none

def idxD : D → D → Option D
  | .tup xs, .int i => at? xs i
  | .lst xs, .int i => at? xs i
  | .scr ns, .int i => (at? ns i).map .int
  | .str s, .int i => if s.length ≤ LIM then (at? s i).map fun c => .str [c] else none
  | _, _ => none
def slcD : D → Option Int → Option Int → Option D
  | .tup xs, lo, hi => some (.tup (cut xs lo hi))
  | .lst xs, lo, hi => some (.lst (cut xs lo hi))
  | .str s, lo, hi => if s.length ≤ LIM then some (.str (cut s lo hi)) else none
  | _, _, _ => none
def revD : D → Option D
  | .tup xs => some (.tup xs.reverse)
  | .lst xs => some (.lst xs.reverse)
  | .str s => if s.length ≤ LIM then some (.str s.reverse) else none
  | _ => none
end RB

/-! The small language of the walks: expressions, statements, what they give. -/
namespace RB

/-- a target: a name's slot, or a tuple of targets -/
inductive Tg where
  | nm (i : Nat) | tp (ts : Tg) | nil | cons (t ts : Tg)
  deriving DecidableEq

/-- expressions, lists of them, what a loop walks -/
inductive I where
  | cst (d : D)
  | var (i : Nat)
  | own (i : Nat)
  | glb (i : Nat)
  | bin (o : BOp) (a b : I)
  | neg (a : I)
  | not (a : I)
  | cmp (o : COp) (a b : I)
  | chn (o p : COp) (a b c : I)
  | and (a b : I)
  | or (a b : I)
  | one (a : I)
  | ife (c a b : I)
  | tup (as : I)
  | lst (as : I)
  | nil
  | cons (a as : I)
  | idx (a i : I)
  | slc (a lo hi : I)
  | prt (a : I)
  | rev (a : I)
  | call (f : Nat) (as : I)
  | bi (b : Bi) (a : I)
  | bi2 (b : Bi2) (a c : I)
  | srt (a : I)
  | isi (a : I) (ts : List Ty)
  | cmp0 (e : I) (tg : Tg) (it : I)
  | cmp1 (e : I) (tg : Tg) (it : I) (c : I)
  | told (e : I)
  | tolds (i l : Nat)
  | mth (b : Bi2) (a c : I)
  | fstw (v l m : I) (r q : Nat) (e : I)
  | new (c : Nat) (as : I)
  | attr (a : I) (f : Nat)
  | repr (a : I)
  -- what a loop walks
  | seqL (a : I)
  | seqT (a : I)
  | seqS (a : I)
  | rng1 (a : I)
  | rng2 (a b : I)
  | zip (a b : I)
  | enumL (a : I)
  | enumT (a : I)
  | enumS (a : I)

inductive T where
  | skip
  | seq (a b : T)
  | asg (i : Nat) (e : I)
  | asgC (i : Nat) (e : I)
  | asgT (tg : Tg) (e : I)
  | par (is : List Nat) (as : I)
  | aug (i : Nat) (o : BOp) (e : I)
  | own (i : Nat) (as : I)
  | app (i : Nat) (e : I)
  | put (i : Nat) (k e : I)
  | sto (i : Nat) (as : I)
  | setS (a k e : I)
  | expr (e : I)
  | ife (c : I) (t e : T)
  | for (tg : Tg) (it : I) (b : T)
  | whl (c : I) (b : T)
  | ret (e : I)
  | retO (i : Nat)
  | rse (c : Nat) (as : I)
  | lams (i l : Nat)

/-- calls of one level down; what a list of lambdas of the def that runs tells -/
structure Calls where
  fn : Nat → List D → Store → R D
  tl : Nat → Env → Store → R (List D)

/-- what of a program is known beside its defs: its constants, the fields of its classes -/
structure Base where
  glb : Nat → Option D
  fld : Nat → Nat → Option Nat
  repr : D → Option (List Nat)
  /-- what the law makes of a refusal -/
  ref : Nat → List D → Option D

/-! ### targets, loops -/
mutual
def setT : Tg → D → Env → Option Env
  | .nm i, d, ρ => if i < ρ.length then some (ρ.set i (some d)) else none
  | .tp ts, d, ρ => match d with
    | .tup ds => setTs ts ds ρ
    | _ => none
  | .nil, _, _ => none
  | .cons _ _, _, _ => none
def setTs : Tg → List D → Env → Option Env
  | .nil, ds, ρ => match ds with
    | [] => some ρ
    | _ :: _ => none
  | .cons t ts, ds, ρ => match ds with
    | [] => none
    | d :: r => (setT t d ρ).bind fun ρ' => setTs ts r ρ'
  | .nm _, _, _ => none
  | .tp _, _, _ => none
end

/-- slots forgotten -/
def slotsT : Tg → List Nat
  | .nm i => [i]
  | .tp ts => slotsT ts
  | .nil => []
  | .cons t ts => slotsT t ++ slotsT ts
def wipeE (ρ : Env) : List Nat → Env
  | [] => ρ
  | v :: vs => (wipeE ρ vs).set v none
/-- nothing is raised -/
def noEx {α : Type} (r : R α) : R α := match r with
  | .ex _ _ _ => .no
  | r => r
@[simp] theorem noEx_ok {α : Type} (a : α) (S : Store) : noEx (.ok a S) = .ok a S := rfl
@[simp] theorem noEx_no {α : Type} : noEx (.no : R α) = .no := rfl
/-- a comprehension: what each turn gives -/
def comp (tg : Tg) (f : Env → Store → R (Option D)) : List D → Env → Store → R (List D)
  | [], _, S => .ok [] S
  | d :: ds, ρ, S => match setT tg d ρ with
    | none => .no
    | some ρ1 => (noEx (f ρ1 S)).bind fun o S1 => (comp tg f ds ρ S1).bind fun r S2 => .ok (o.toList ++ r) S2

inductive Fl where
  | nx (ρ : Env)
  | rt (d : D)

def loopF (tg : Tg) (b : Env → Store → R Fl) : List D → Env → Store → R Fl
  | [], ρ, S => .ok (.nx ρ) S
  | d :: ds, ρ, S => match setT tg d ρ with
    | none => .no
    | some ρ1 => (b ρ1 S).bind fun f S1 => match f with
      | .nx ρ2 => loopF tg b ds ρ2 S1
      | .rt v => .ok (.rt v) S1
def loopW (c : Env → Store → R Bool) (b : Env → Store → R Fl) : Nat → Env → Store → R Fl
  | 0, _, _ => .no
  | n + 1, ρ, S => (c ρ S).bind fun t S1 => if t then (b ρ S1).bind fun f S2 => match f with
      | .nx ρ2 => loopW c b n ρ2 S2
      | .rt v => .ok (.rt v) S2
    else .ok (.nx ρ) S1

def getV (ρ : Env) (i : Nat) : Option D := match ρ[i]? with
  | some (some d) => some d
  | _ => none
/-- a list that a slot holds -/
def getL (ρ : Env) (i : Nat) : Option D := match getV ρ i with
  | some (.lst xs) => some (.lst xs)
  | _ => none
def capsOf (ρ : Env) : List Nat → Option (List D)
  | [] => some []
  | i :: r => (getV ρ i).bind fun d => (capsOf ρ r).map (d :: ·)
def toBl (d : D) (S : Store) : R Bool := match d with
  | .bl b => .ok b S
  | _ => .no
/-- the items that a loop over a value takes -/
def itemsOf : D → Option (List D)
  | .lst xs => some xs
  | .tup xs => some xs
  | .str s => some (signsOf s)
  | _ => none
def zipD : List D → List D → List D
  | x :: xs, y :: ys => .tup [x, y] :: zipD xs ys
  | _, _ => []
/-- what zip takes: two lists, two tuples, two texts -/
def zipOf : D → D → Option (List D)
  | .lst xs, .lst ys => some (zipD xs ys)
  | .tup xs, .tup ys => some (zipD xs ys)
  | _, _ => none
def enumD : Nat → List D → List D
  | _, [] => []
  | k, x :: xs => .tup [.int k, x] :: enumD (k + 1) xs
def idxS (S : Store) (a i : D) : Option D := match a with
  | .ref n => match S[n]? with
    | some (.lst xs) => idxD (.lst xs) i
    | _ => none
  | a => idxD a i
def seqOf (d : D) : Option (List D) := match d with
  | .lst xs => some xs
  | .tup xs => some xs
  | _ => none
def attrD (B : Base) (d : D) (f : Nat) : Option D := match d with
  | .obj c vs => (B.fld c f).bind fun k => vs[k]?
  | _ => none
/-- what the law's teller makes of a call's end -/
def toldR (B : Base) (r : R D) : R D := match r with
  | .ok d S => .ok (.tup [.str [116, 111, 108, 100], d]) S
  | .ex c vs S => .of (B.ref c vs) S
  | .no => .no
/-- a comprehension's turn: its test, its item -/
def compF (gc ge : Env → Store → R D) : Env → Store → R (Option D) := fun ρ' S' => (gc ρ' S').bind fun x S2 => (toBl x S2).bind fun t S3 => if t then (ge ρ' S3).bind fun d S4 => .ok (some d) S4 else .ok none S3
def yesG : Env → Store → R D := fun _ S => .ok (.bl true) S
def compL (r : R (List D)) : R D := r.bind fun ds S => if ds.length ≤ LIM then .ok (.lst ds) S else .no
/-- the first place whose row is judged wrong -/
def wrongF (r q : Nat) (g : Env → Store → R D) (all : List D) : Nat → List D → Env → Store → R D
  | _, [], _, S => .ok .non S
  | k, d :: ds, ρ, S => (noEx (g ((ρ.set r (some d)).set q (some (.tup (all.take k)))) S)).bind fun x S1 => (toBl x S1).bind fun b S2 => if b then wrongF r q g all (k + 1) ds ρ S2 else .ok (.int k) S2
def firstWrong (r q : Nat) (g : Env → Store → R D) (v l m : D) (ρ : Env) (S : Store) : R D := match v, l, m with
  | .tup xs, .int lo, .int hi => if lo ≤ xs.length ∧ (xs.length : Int) ≤ hi then (if r < ρ.length ∧ q < ρ.length ∧ r ≠ q then wrongF r q g xs 0 xs ρ S else .no) else .ok (.int (-1)) S
  | .tup _, _, _ => .no
  | _, _, _ => if typed v then .ok (.int (-1)) S else .no
mutual
/-- two plain data that are the very same -/
def same2 : D → D → Bool
  | .non, .non => true
  | .bl a, .bl b => a == b
  | .int i, .int j => i == j
  | .str x, .str y => x == y
  | .lst xs, .lst ys => sames xs ys
  | .tup xs, .tup ys => sames xs ys
  | _, _ => false
def sames : List D → List D → Bool
  | [], [] => true
  | x :: xs, y :: ys => same2 x y && sames xs ys
  | _, _ => false
end
mutual
/-- no large ints -/
def smallD : D → Bool
  | .int i => decide (i.natAbs < 1000000000000)
  | .lst xs => smallDs xs
  | .tup xs => smallDs xs
  | _ => true
def smallDs : List D → Bool
  | [] => true
  | x :: xs => smallD x && smallDs xs
end
mutual
/-- the signs of the texts, the items -/
def bulkD : D → Nat
  | .str s => s.length
  | .lst xs => bulkDs xs
  | .tup xs => bulkDs xs
  | _ => 0
def bulkDs : List D → Nat
  | [] => 0
  | x :: xs => bulkD x + 1 + bulkDs xs
end
def isSeq : D → Bool
  | .lst _ => true
  | .tup _ => true
  | _ => false
def sameD (x y : D) : Option Bool := if isSeq x && fine 60 x && smallD x && decide (bulkD x ≤ 1048576) && same2 x y then some true else none
/-- whose method it is -/
def recvOk : Bi2 → D → Bool
  | .join, .str _ => true
  | .index, .lst _ => true
  | .count, .lst _ => true
  | _, _ => false
def boundOk (i : Int) : Bool := decide (i.natAbs ≤ LIM)

/-! ### expressions -/
mutual
def ev (C : Calls) (B : Base) : I → Env → Store → R D
  | .cst d, _, S => .ok d S
  | .var i, ρ, S => .of (getV ρ i) S
  | .own i, ρ, S => .of (getL ρ i) S
  | .glb i, _, S => .of (B.glb i) S
  | .bin o a b, ρ, S => (ev C B a ρ S).bind fun x S1 => (ev C B b ρ S1).bind fun y S2 => .of (bin o x y) S2
  | .neg a, ρ, S => (ev C B a ρ S).bind fun x S1 => match x with
    | .int i => .ok (.int (-i)) S1
    | _ => .no
  | .not a, ρ, S => (ev C B a ρ S).bind fun x S1 => (toBl x S1).bind fun b S2 => .ok (.bl (!b)) S2
  | .cmp o a b, ρ, S => (ev C B a ρ S).bind fun x S1 => (ev C B b ρ S1).bind fun y S2 => .of ((cmpD o x y).map .bl) S2
  | .chn o p a b c, ρ, S => (ev C B a ρ S).bind fun x S1 => (ev C B b ρ S1).bind fun y S2 => match cmpD o x y with
    | none => .no
    | some false => .ok (.bl false) S2
    | some true => (ev C B c ρ S2).bind fun z S3 => .of ((cmpD p y z).map .bl) S3
  | .and a b, ρ, S => (ev C B a ρ S).bind fun x S1 => (toBl x S1).bind fun t S2 => if t then ev C B b ρ S2 else .ok (.bl false) S2
  | .or a b, ρ, S => (ev C B a ρ S).bind fun x S1 => (toBl x S1).bind fun t S2 => if t then .ok (.bl true) S2 else ev C B b ρ S2
  | .one a, ρ, S => ev C B a ρ S
  | .ife c a b, ρ, S => (ev C B c ρ S).bind fun x S1 => (toBl x S1).bind fun t S2 => if t then ev C B a ρ S2 else ev C B b ρ S2
  | .tup as, ρ, S => (evs C B as ρ S).bind fun ds S1 => .ok (.tup ds) S1
  | .lst as, ρ, S => (evs C B as ρ S).bind fun ds S1 => .ok (.lst ds) S1
  | .idx a i, ρ, S => (ev C B a ρ S).bind fun x S1 => (ev C B i ρ S1).bind fun y S2 => .of (idxS S2 x y) S2
  | .slc a lo hi, ρ, S => (ev C B a ρ S).bind fun x S1 => (evp C B lo ρ S1).bind fun l S2 => (evp C B hi ρ S2).bind fun h S3 => .of (slcD x l h) S3
  | .rev a, ρ, S => (ev C B a ρ S).bind fun x S1 => .of (revD x) S1
  | .call f as, ρ, S => (evs C B as ρ S).bind fun ds S1 => C.fn f ds S1
  | .bi b a, ρ, S => (ev C B a ρ S).bind fun x S1 => .of (bi b x) S1
  | .bi2 b a c, ρ, S => (ev C B a ρ S).bind fun x S1 => (ev C B c ρ S1).bind fun y S2 => .of (bi2 b x y) S2
  | .srt a, ρ, S => (ev C B a ρ S).bind fun x S1 => .of (bi .sortset x) S1
  | .isi a ts, ρ, S => (ev C B a ρ S).bind fun x S1 => if typed x then .ok (.bl (ts.any (isTy x))) S1 else .no
  | .cmp0 e tg it, ρ, S => (evi C B it ρ S).bind fun ds S1 => compL (comp tg (compF yesG (ev C B e)) ds (wipeE ρ (slotsT tg)) S1)
  | .cmp1 e tg it c, ρ, S => (evi C B it ρ S).bind fun ds S1 => compL (comp tg (compF (ev C B c) (ev C B e)) ds (wipeE ρ (slotsT tg)) S1)
  | .told e, ρ, S => toldR B (ev C B e ρ S)
  | .tolds i l, ρ, S => match getV ρ i with
    | some (.clo l' _) => if l' = l then (C.tl l ρ S).bind fun ds S1 => .ok (.lst ds) S1 else .no
    | _ => .no
  | .mth b a c, ρ, S => (ev C B a ρ S).bind fun x S1 => if recvOk b x then (ev C B c ρ S1).bind fun y S2 => .of (bi2 b x y) S2 else .no
  | .fstw v l m r q e, ρ, S => (ev C B v ρ S).bind fun x S1 => (ev C B l ρ S1).bind fun y S2 => (ev C B m ρ S2).bind fun z S3 => firstWrong r q (ev C B e) x y z ρ S3
  | .new c as, ρ, S => (evs C B as ρ S).bind fun ds S1 => .ok (.obj c ds) S1
  | .attr a f, ρ, S => (ev C B a ρ S).bind fun x S1 => .of (attrD B x f) S1
  | .repr a, ρ, S => (ev C B a ρ S).bind fun x S1 => .of ((B.repr x).map .str) S1
  | _, _, _ => .no
def evs (C : Calls) (B : Base) : I → Env → Store → R (List D)
  | .nil, _, S => .ok [] S
  | .cons a as, ρ, S => (ev C B a ρ S).bind fun d S1 => (evs C B as ρ S1).bind fun ds S2 => .ok (d :: ds) S2
  | _, _, _ => .no
def evp (C : Calls) (B : Base) : I → Env → Store → R (Option Int)
  | .nil, _, S => .ok none S
  | .prt a, ρ, S => (ev C B a ρ S).bind fun x S1 => match x with
    | .int i => .ok (some i) S1
    | _ => .no
  | _, _, _ => .no
def evi (C : Calls) (B : Base) : I → Env → Store → R (List D)
  | .seqL a, ρ, S => (ev C B a ρ S).bind fun x S1 => match x with
    | .lst xs => .ok xs S1
    | _ => .no
  | .seqT a, ρ, S => (ev C B a ρ S).bind fun x S1 => match x with
    | .tup xs => .ok xs S1
    | _ => .no
  | .seqS a, ρ, S => (ev C B a ρ S).bind fun x S1 => match x with
    | .str s => .ok (signsOf s) S1
    | _ => .no
  | .rng1 a, ρ, S => (ev C B a ρ S).bind fun x S1 => match x with
    | .int j => if j.natAbs ≤ LIM then .ok (upto 0 j.toNat) S1 else .no
    | _ => .no
  | .rng2 a b, ρ, S => (ev C B a ρ S).bind fun x S1 => (ev C B b ρ S1).bind fun y S2 => match x, y with
    | .int i, .int j => if i.natAbs ≤ LIM ∧ j.natAbs ≤ LIM then .ok (upto i (j - i).toNat) S2 else .no
    | _, _ => .no
  | .zip a b, ρ, S => (ev C B a ρ S).bind fun x S1 => (ev C B b ρ S1).bind fun y S2 => .of (zipOf x y) S2
  | .enumL a, ρ, S => (ev C B a ρ S).bind fun x S1 => match x with
    | .lst xs => .ok (enumD 0 xs) S1
    | _ => .no
  | .enumT a, ρ, S => (ev C B a ρ S).bind fun x S1 => match x with
    | .tup xs => .ok (enumD 0 xs) S1
    | _ => .no
  | .enumS a, ρ, S => (ev C B a ρ S).bind fun x S1 => match x with
    | .str s => if s.length ≤ LIM then .ok (enumD 0 (signsOf s)) S1 else .no
    | _ => .no
  | _, _, _ => .no
end

/-! ### statements -/
def turnsMost : Nat := 1000000
def setI (ρ : Env) (i : Nat) (d : D) (S : Store) : R Fl := if i < ρ.length then .ok (.nx (ρ.set i (some d))) S else .no
def setAll : List Nat → List D → Env → Option Env
  | [], [], ρ => some ρ
  | i :: is, d :: ds, ρ => if i < ρ.length then setAll is ds (ρ.set i (some d)) else none
  | _, _, _ => none
def setAt (xs : List D) (i : Int) (d : D) : Option (List D) := (ixOf xs.length i).map fun j => xs.set j d

def ex (C : Calls) (B : Base) : T → Env → Store → R Fl
  | .skip, ρ, S => .ok (.nx ρ) S
  | .seq a b, ρ, S => (ex C B a ρ S).bind fun f S1 => match f with
    | .nx ρ1 => ex C B b ρ1 S1
    | .rt d => .ok (.rt d) S1
  | .asg i e, ρ, S => (ev C B e ρ S).bind fun d S1 => setI ρ i d S1
  | .asgC i e, ρ, S => (ev C B e ρ S).bind fun d S1 => setI ρ i d S1
  | .asgT tg e, ρ, S => (ev C B e ρ S).bind fun d S1 => (R.of (setT tg d ρ) S1).bind fun ρ1 S2 => .ok (.nx ρ1) S2
  | .par is as, ρ, S => (evs C B as ρ S).bind fun ds S1 => (R.of (setAll is ds ρ) S1).bind fun ρ1 S2 => .ok (.nx ρ1) S2
  | .aug i o e, ρ, S => match getV ρ i with
    | none => .no
    | some x => (ev C B e ρ S).bind fun y S1 => match x, y with
      | .int i1, .int j1 => (R.of (bin o (.int i1) (.int j1)) S1).bind fun z S2 => setI ρ i z S2
      | _, _ => .no
  | .own i as, ρ, S => (evs C B as ρ S).bind fun ds S1 => setI ρ i (.lst ds) S1
  | .app i e, ρ, S => match getV ρ i with
    | some (.lst xs) => (ev C B e ρ S).bind fun d S1 => if xs.length < LIM then setI ρ i (.lst (xs ++ [d])) S1 else .no
    | _ => .no
  | .put i k e, ρ, S => (ev C B e ρ S).bind fun d S1 => (ev C B k ρ S1).bind fun k S2 => match getV ρ i, k with
    | some (.lst xs), .int j => (R.of (setAt xs j d) S2).bind fun ys S3 => setI ρ i (.lst ys) S3
    | _, _ => .no
  | .sto i as, ρ, S => (evs C B as ρ S).bind fun ds S1 => setI ρ i (.ref S1.length) (S1 ++ [.lst ds])
  | .setS a k e, ρ, S => (ev C B e ρ S).bind fun d S1 => (ev C B a ρ S1).bind fun x S2 => (ev C B k ρ S2).bind fun k S3 => match x, k with
    | .ref n, .int j => match S3[n]? with
      | some (.lst xs) => (R.of (setAt xs j d) S3).bind fun ys S4 => .ok (.nx ρ) (S4.set n (.lst ys))
      | _ => .no
    | _, _ => .no
  | .expr e, ρ, S => (ev C B e ρ S).bind fun _ S1 => .ok (.nx ρ) S1
  | .ife c t e, ρ, S => (ev C B c ρ S).bind fun x S1 => (toBl x S1).bind fun b S2 => if b then ex C B t ρ S2 else ex C B e ρ S2
  | .for tg it b, ρ, S => (evi C B it ρ S).bind fun ds S1 => loopF tg (ex C B b) ds ρ S1
  | .whl c b, ρ, S => loopW (fun ρ' S' => (ev C B c ρ' S').bind toBl) (ex C B b) turnsMost ρ S
  | .ret e, ρ, S => (ev C B e ρ S).bind fun d S1 => .ok (.rt d) S1
  | .retO i, ρ, S => (R.of (getL ρ i) S).bind fun d S1 => .ok (.rt d) S1
  | .rse c as, ρ, S => (evs C B as ρ S).bind fun ds S1 => .ex c ds S1
  | .lams i l, ρ, S => setI ρ i (.clo l []) S

/-- what each of a list of lambdas tells -/
def toldL (C : Calls) (B : Base) : I → Env → Store → R (List D)
  | .nil, _, S => .ok [] S
  | .cons a as, ρ, S => (toldR B (ev C B a ρ S)).bind fun d S1 => (toldL C B as ρ S1).bind fun ds S2 => .ok (d :: ds) S2
  | _, _, _ => .no

/-! ### defs -/
inductive Fn where
  | code (np n : Nat) (lams : List I) (body : T)
  | same
structure Prog where
  B : Base
  fns : List Fn

def startEnv (n : Nat) (ds : List D) : Env := ds.map some ++ List.replicate (n - ds.length) none
def endOf (r : R Fl) : R D := r.bind fun f S => match f with
  | .nx _ => .ok .non S
  | .rt d => .ok d S
/-- the calls of a def's body -/
def callsIn (B : Base) (lams : List I) (fn : Nat → List D → Store → R D) : Calls := ⟨fn, fun l ρ S => match lams[l]? with
  | some es => toldL ⟨fn, fun _ _ _ => .no⟩ B es ρ S
  | none => .no⟩
def sameF (ds : List D) (S : Store) : R D := match ds with
  | [x, y] => .of ((sameD x y).map .bl) S
  | _ => .no
def callFn (P : Prog) (fn : Nat → List D → Store → R D) (f : Nat) (ds : List D) (S : Store) : R D := match P.fns[f]? with
  | some (.code np n lams body) => if ds.length = np then endOf (ex (callsIn P.B lams fn) P.B body (startEnv n ds) S) else .no
  | some .same => sameF ds S
  | none => .no
def run (P : Prog) : Nat → Nat → List D → Store → R D
  | 0 => fun _ _ _ => .no
  | k + 1 => callFn P (run P k)
end RB

set_option Elab.async false
set_option linter.all false
set_option maxRecDepth 100000
set_option maxHeartbeats 4000000
set_option autoImplicit false
/-! Worlds: how plain data lies in the abstract heap; what an expression's reading is over it. -/
namespace RB
open PySem PySem.Spec PyProof.Rows L2

abbrev Sl := L2.St
/-- a frozen heap within the whole one; where the store's things stand; the store -/
structure Wd where
  F : Hp
  H : Hp
  M : List Addr
  S : Store

def strV (s : List Nat) : Str := ⟨s.toArray⟩
def keyV : (Int ⊕ List Nat) → Key
  | .inl i => .inl i
  | .inr s => .inr (strV s)
/-- what is known of the program where data lies -/
structure Hd where
  K : PySem.W.Frag
  co : Addr → Nat → List D → Prop
  cls : Nat → Option (Addr × List Str)
  fnA : Nat → Option Addr
  T : List NdefX.NTab

mutual
def RepV (G : Hd) (F : Hp) (M : List Addr) : D → V → Prop
  | .non, v => v = .non
  | .bl b, v => v = .bl b
  | .int i, v => v = .int i
  | .str s, v => v = .str (strV s)
  | .tup ds, v => ∃ a vs, v = .ref a ∧ SqT G.K F a vs ∧ RepL G F M ds vs
  | .lst ds, v => ∃ a vs, v = .ref a ∧ F a = some (.lst vs) ∧ RepL G F M ds vs
  | .dic ks ds, v => ∃ a vs, v = .ref a ∧ Rd F a (.dK ((ks.map keyV).zip vs)) ∧ ks.length = vs.length ∧ RepL G F M ds vs
  | .obj c ds, v => ∃ a C dx ns vs, v = .ref a ∧ G.cls c = some (C, ns) ∧ F a = some (.ins C dx (ns.zip vs)) ∧ ns.length = vs.length ∧ RepL G F M ds vs
  | .fn f, v => ∃ a, G.fnA f = some a ∧ v = .ref a
  | .clo l ds, v => ∃ a, v = .ref a ∧ G.co a l ds
  | .ref n, v => ∃ a, M[n]? = some a ∧ v = .ref a
  | .scr ns, v => ∃ a, v = .ref a ∧ SqL G.K F a (ns.map V.int)
def RepL (G : Hd) (F : Hp) (M : List Addr) : List D → List V → Prop
  | [], vs => vs = []
  | d :: ds, vs => ∃ v r, vs = v :: r ∧ RepV G F M d v ∧ RepL G F M ds r
end

def Sub (F F' : Hp) : Prop := ∀ a o, F a = some o → F' a = some o
theorem Sub.refl (F : Hp) : Sub F F := fun _ _ h => h
theorem Sub.trans {F F' F'' : Hp} (h : Sub F F') (k : Sub F' F'') : Sub F F'' := fun a o e => k a o (h a o e)
theorem Sub.rd {F F' : Hp} (h : Sub F F') {a : Addr} {u : HO} (r : Rd F a u) : Rd F' a u := by
  rcases r with r | ⟨o, r⟩
  · exact .inl (h _ _ r)
  · exact .inr ⟨o, h _ _ r⟩
theorem Sub.sqT {K : PySem.W.Frag} {F F' : Hp} (h : Sub F F') {a : Addr} {vs : List V} (r : SqT K F a vs) : SqT K F' a vs := by
  rcases r with r | r
  · exact .inl (h.rd r)
  · exact .inr r
theorem Sub.sqL {K : PySem.W.Frag} {F F' : Hp} (h : Sub F F') {a : Addr} {vs : List V} (r : SqL K F a vs) : SqL K F' a vs := by
  rcases r with r | r
  · exact .inl (h.rd r)
  · exact .inr r
def Pre (M M' : List Addr) : Prop := ∃ more, M' = M ++ more
theorem Pre.at {M M' : List Addr} (h : Pre M M') {n : Nat} {a : Addr} (e : M[n]? = some a) : M'[n]? = some a := by
  obtain ⟨more, rfl⟩ := h
  obtain ⟨hn, _⟩ := List.getElem?_eq_some_iff.mp e
  rw [List.getElem?_append_left hn]
  exact e

section
variable {G : Hd} {F F' : Hp} {M M' : List Addr}
mutual
theorem RepV.mono (hF : Sub F F') (hM : Pre M M') : ∀ {d : D} {v : V}, RepV G F M d v → RepV G F' M' d v
  | .non, _, h => by simpa only [RepV] using h
  | .bl _, _, h => by simpa only [RepV] using h
  | .int _, _, h => by simpa only [RepV] using h
  | .str _, _, h => by simpa only [RepV] using h
  | .tup ds, v, h => by
    simp only [RepV] at h ⊢
    obtain ⟨a, vs, e, q, r⟩ := h
    exact ⟨a, vs, e, hF.sqT q, RepL.mono hF hM r⟩
  | .lst ds, v, h => by
    simp only [RepV] at h ⊢
    obtain ⟨a, vs, e, q, r⟩ := h
    exact ⟨a, vs, e, hF _ _ q, RepL.mono hF hM r⟩
  | .dic ks ds, v, h => by
    simp only [RepV] at h ⊢
    obtain ⟨a, vs, e, q, l, r⟩ := h
    exact ⟨a, vs, e, hF.rd q, l, RepL.mono hF hM r⟩
  | .obj c ds, v, h => by
    simp only [RepV] at h ⊢
    obtain ⟨a, C, dx, ns, vs, e, k, q, l, r⟩ := h
    exact ⟨a, C, dx, ns, vs, e, k, hF _ _ q, l, RepL.mono hF hM r⟩
  | .fn f, _, h => by simpa only [RepV] using h
  | .clo l ds, _, h => by simpa only [RepV] using h
  | .ref n, _, h => by
    simp only [RepV] at h ⊢
    obtain ⟨a, e, q⟩ := h
    exact ⟨a, hM.at e, q⟩
  | .scr ns, _, h => by
    simp only [RepV] at h ⊢
    obtain ⟨a, e, q⟩ := h
    exact ⟨a, e, hF.sqL q⟩
theorem RepL.mono (hF : Sub F F') (hM : Pre M M') : ∀ {ds : List D} {vs : List V}, RepL G F M ds vs → RepL G F' M' ds vs
  | [], _, h => by simpa only [RepL] using h
  | d :: ds, vs, h => by
    simp only [RepL] at h ⊢
    obtain ⟨v, r, e, q, t⟩ := h
    exact ⟨v, r, e, RepV.mono hF hM q, RepL.mono hF hM t⟩
end
theorem RepL.length : ∀ {ds : List D} {vs : List V}, RepL G F M ds vs → ds.length = vs.length
  | [], vs, h => by
    simp only [RepL] at h
    rw [h]
    rfl
  | d :: ds, vs, h => by
    simp only [RepL] at h
    obtain ⟨v, r, e, q, t⟩ := h
    rw [e, List.length_cons, List.length_cons, RepL.length t]
theorem RepL.get : ∀ {ds : List D} {vs : List V} {i : Nat} {d : D}, RepL G F M ds vs → ds[i]? = some d → ∃ v, vs[i]? = some v ∧ RepV G F M d v
  | [], _, _, _, _, e => by simp at e
  | d :: ds, vs, 0, _, h, e => by
    simp only [RepL] at h
    obtain ⟨v, r, rfl, q, t⟩ := h
    simp at e
    subst e
    exact ⟨v, rfl, q⟩
  | d :: ds, vs, i + 1, _, h, e => by
    simp only [RepL] at h
    obtain ⟨v, r, rfl, q, t⟩ := h
    simpa using RepL.get t (by simpa using e)
theorem RepL.append : ∀ {ds es : List D} {vs us : List V}, RepL G F M ds vs → RepL G F M es us → RepL G F M (ds ++ es) (vs ++ us)
  | [], _, _, _, h, k => by
    simp only [RepL] at h
    subst h
    exact k
  | d :: ds, es, vs, us, h, k => by
    simp only [RepL] at h
    obtain ⟨v, r, rfl, q, t⟩ := h
    simp only [List.cons_append, RepL]
    exact ⟨v, r ++ us, rfl, q, RepL.append t k⟩
theorem RepL.take : ∀ {ds : List D} {vs : List V} (n : Nat), RepL G F M ds vs → RepL G F M (ds.take n) (vs.take n)
  | _, _, 0, _ => by simp only [List.take_zero, RepL]
  | [], _, _ + 1, h => by
    simp only [RepL] at h
    subst h
    simp only [List.take_nil, RepL]
  | d :: ds, vs, n + 1, h => by
    simp only [RepL] at h
    obtain ⟨v, r, rfl, q, t⟩ := h
    simp only [List.take_succ_cons, RepL]
    exact ⟨v, _, rfl, q, RepL.take n t⟩
theorem RepL.drop : ∀ {ds : List D} {vs : List V} (n : Nat), RepL G F M ds vs → RepL G F M (ds.drop n) (vs.drop n)
  | _, _, 0, h => by simpa using h
  | [], _, _ + 1, h => by
    simp only [RepL] at h
    subst h
    simp only [List.drop_nil, RepL]
  | d :: ds, vs, n + 1, h => by
    simp only [RepL] at h
    obtain ⟨v, r, rfl, q, t⟩ := h
    simpa using RepL.drop n t
theorem RepL.set : ∀ {ds : List D} {vs : List V} (n : Nat) {d : D} {v : V}, RepL G F M ds vs → RepV G F M d v → RepL G F M (ds.set n d) (vs.set n v)
  | [], _, _, _, _, h, _ => by
    simp only [RepL] at h
    subst h
    simp only [List.set_nil, RepL]
  | d :: ds, vs, 0, _, _, h, k => by
    simp only [RepL] at h
    obtain ⟨v, r, rfl, q, t⟩ := h
    simp only [List.set_cons_zero, RepL]
    exact ⟨_, _, rfl, k, t⟩
  | d :: ds, vs, n + 1, _, _, h, k => by
    simp only [RepL] at h
    obtain ⟨v, r, rfl, q, t⟩ := h
    simp only [List.set_cons_succ, RepL]
    exact ⟨_, _, rfl, q, RepL.set n t k⟩
theorem RepL.reverse : ∀ {ds : List D} {vs : List V}, RepL G F M ds vs → RepL G F M ds.reverse vs.reverse
  | [], _, h => by
    simp only [RepL] at h
    subst h
    simp only [List.reverse_nil, RepL]
  | d :: ds, vs, h => by
    simp only [RepL] at h
    obtain ⟨v, r, rfl, q, t⟩ := h
    rw [List.reverse_cons, List.reverse_cons]
    refine RepL.append (RepL.reverse t) ?_
    simp only [RepL]
    exact ⟨v, [], rfl, q, rfl⟩
theorem RepL.flat : ∀ {n : Nat} {ds : List D} {vs : List V}, RepL G F M ds vs → RepL G F M (rep n ds) (List.replicate n vs).flatten
  | 0, _, _, _ => by simp only [rep, List.replicate_zero, List.flatten_nil, RepL]
  | n + 1, ds, vs, h => by
    show RepL G F M (List.replicate (n + 1) ds).flatten (List.replicate (n + 1) vs).flatten
    rw [List.replicate_succ, List.replicate_succ, List.flatten_cons, List.flatten_cons]
    exact RepL.append h (RepL.flat (n := n) h)
theorem RepL.ints : ∀ {ns : List Int} {vs : List V}, RepL G F M (ns.map .int) vs → vs = ns.map .int
  | [], _, h => by simpa only [List.map_nil, RepL] using h
  | n :: ns, vs, h => by
    simp only [List.map_cons, RepL, RepV] at h
    obtain ⟨v, r, rfl, rfl, t⟩ := h
    rw [RepL.ints t, List.map_cons]
theorem RepL.of_ints : ∀ (ns : List Int), RepL G F M (ns.map .int) (ns.map .int)
  | [] => by simp only [List.map_nil, RepL]
  | n :: ns => by
    simp only [List.map_cons, RepL, RepV]
    exact ⟨_, _, rfl, rfl, RepL.of_ints ns⟩
theorem RepL.strs : ∀ {ns : List (List Nat)} {vs : List V}, RepL G F M (ns.map .str) vs → vs = (ns.map strV).map .str
  | [], _, h => by simpa only [List.map_nil, RepL] using h
  | n :: ns, vs, h => by
    simp only [List.map_cons, RepL, RepV] at h
    obtain ⟨v, r, rfl, rfl, t⟩ := h
    rw [RepL.strs t]
    rfl
theorem RepL.of_strs : ∀ (ns : List (List Nat)), RepL G F M (ns.map .str) ((ns.map strV).map .str)
  | [] => by simp only [List.map_nil, RepL]
  | n :: ns => by
    simp only [List.map_cons, RepL, RepV]
    exact ⟨_, _, rfl, rfl, RepL.of_strs ns⟩
theorem RepL.bls : ∀ {ns : List Bool} {vs : List V}, RepL G F M (ns.map .bl) vs → vs = ns.map .bl
  | [], _, h => by simpa only [List.map_nil, RepL] using h
  | n :: ns, vs, h => by
    simp only [List.map_cons, RepL, RepV] at h
    obtain ⟨v, r, rfl, rfl, t⟩ := h
    rw [RepL.bls t, List.map_cons]
end

/-! ### worlds that hold, worlds that grow -/
def SoR (G : Hd) (w : Wd) (a : Addr) : SO → Prop
  | .lst ds => ∃ vs, w.H a = some (.lst vs) ∧ RepL G w.F w.M ds vs
  | .ins _ _ => False
structure WOk (G : Hd) (w : Wd) : Prop where
  sub : Sub w.F w.H
  nd : w.M.Nodup
  len : w.M.length = w.S.length
  st : ∀ (n : Nat) (a : Addr) (so : SO), w.M[n]? = some a → w.S[n]? = some so → w.F a = none ∧ SoR G w a so
  tab : NdefX.TabsN G.T w.H
  ntb : ∀ a ps, w.F a ≠ some (.tbl ps)
structure Ext (w w' : Wd) : Prop where
  fs : Sub w.F w'.F
  fn : ∀ a, w.H a ≠ none → w'.F a = w.F a
  hs : ∀ a o, w.H a = some o → a ∉ w.M → (∀ ps, o ≠ .tbl ps) → w'.H a = some o
  hn : ∀ a, w.H a ≠ none → w'.H a ≠ none
  ms : ∃ more, w'.M = w.M ++ more ∧ ∀ a ∈ more, w.H a = none
theorem Ext.refl (w : Wd) : Ext w w := ⟨Sub.refl _, fun _ _ => rfl, fun _ _ e _ _ => e, fun _ h => h, [], by simp, by simp⟩
theorem Ext.pre {w w' : Wd} (e : Ext w w') : Pre w.M w'.M := let ⟨m, h, _⟩ := e.ms; ⟨m, h⟩
theorem Ext.trans {w w' w'' : Wd} (a : Ext w w') (b : Ext w' w'') : Ext w w'' where
  fs := a.fs.trans b.fs
  fn := fun x h => (b.fn x (a.hn x h)).trans (a.fn x h)
  hs := fun x o e hm ht => by
    refine b.hs x o (a.hs x o e hm ht) (fun z => ?_) ht
    obtain ⟨m, h, n⟩ := a.ms
    rw [h] at z
    rcases List.mem_append.mp z with z | z
    · exact hm z
    · rw [n x z] at e
      cases e
  hn := fun x h => b.hn x (a.hn x h)
  ms := by
    obtain ⟨m, h, n⟩ := a.ms
    obtain ⟨m', h', n'⟩ := b.ms
    refine ⟨m ++ m', by rw [h', h, List.append_assoc], fun x z => ?_⟩
    rcases List.mem_append.mp z with z | z
    · exact n x z
    · cases e : w.H x with
      | none => rfl
      | some o => exact absurd (n' x z) (a.hn x (by rw [e]; simp))
theorem RepV.ext {G : Hd} {w w' : Wd} {d : D} {v : V} (r : RepV G w.F w.M d v) (e : Ext w w') : RepV G w'.F w'.M d v := r.mono e.fs e.pre
theorem RepL.ext {G : Hd} {w w' : Wd} {ds : List D} {vs : List V} (r : RepL G w.F w.M ds vs) (e : Ext w w') : RepL G w'.F w'.M ds vs := r.mono e.fs e.pre

/-- a new frozen thing -/
def Wd.new (w : Wd) (p : Addr) (o : HO) : Wd := { w with F := upd w.F p o, H := upd w.H p o }
theorem none_of_sub {F H : Hp} (h : Sub F H) {p : Addr} (n : H p = none) : F p = none := by
  cases e : F p with
  | none => rfl
  | some o =>
    rw [h _ _ e] at n
    cases n
theorem tabs_upd {T : List NdefX.NTab} {H : Hp} {p : Addr} {o : HO} (t : NdefX.TabsN T H) (n : H p = none) : NdefX.TabsN T (upd H p o) :=
  t.ext fun b u e => by
    rw [upd_ne (ne_of_none e n)]
    exact e
theorem Wd.new_ext {w : Wd} (hs : Sub w.F w.H) {p : Addr} {o : HO} (n : w.H p = none) : Ext w (w.new p o) where
  fs := fun a u e => by
    show upd w.F p o a = some u
    rw [upd_ne (ne_of_none e (none_of_sub hs n))]
    exact e
  fn := fun a h => by
    show upd w.F p o a = w.F a
    exact upd_ne fun z => h (by rw [z]; exact n)
  hs := fun a u e _ _ => by
    show upd w.H p o a = some u
    rw [upd_ne (ne_of_none e n)]
    exact e
  hn := fun a h => by
    show upd w.H p o a ≠ none
    rw [upd_ne fun z => h (by rw [z]; exact n)]
    exact h
  ms := ⟨[], by simp [Wd.new], by simp⟩
theorem WOk.new {G : Hd} {w : Wd} (ok : WOk G w) {p : Addr} {o : HO} (n : w.H p = none) (ht : ∀ ps, o ≠ .tbl ps) : WOk G (w.new p o) where
  sub := fun a u e => by
    show upd w.H p o a = some u
    by_cases h : a = p
    · subst h
      have e' : upd w.F a o a = some u := e
      rw [upd_same] at e' ⊢
      exact e'
    · have e' : upd w.F p o a = some u := e
      rw [upd_ne h] at e' ⊢
      exact ok.sub _ _ e'
  nd := ok.nd
  len := ok.len
  st := fun k a so h1 h2 => by
    obtain ⟨f, r⟩ := ok.st k a so h1 h2
    have x := Wd.new_ext ok.sub (o := o) n
    have np : a ≠ p := by
      rintro rfl
      cases so with
      | lst ds =>
        obtain ⟨vs, e, _⟩ := r
        rw [n] at e
        cases e
      | ins _ _ => exact r.elim
    refine ⟨?_, ?_⟩
    · show upd w.F p o a = none
      rw [upd_ne np]
      exact f
    · cases so with
      | lst ds =>
        obtain ⟨vs, e, q⟩ := r
        exact ⟨vs, by show upd w.H p o a = _; rw [upd_ne np]; exact e, q.ext x⟩
      | ins _ _ => exact r.elim
  tab := tabs_upd ok.tab n
  ntb := fun a ps e => by
    have e' : upd w.F p o a = some (.tbl ps) := e
    by_cases h : a = p
    · subst h
      rw [upd_same] at e'
      exact ht ps (Option.some.inj e')
    · rw [upd_ne h] at e'
      exact ok.ntb _ _ e'

/-! ### lambdas -/
/-- a lambda's words, the cells that it captured -/
structure LF where
  qual : Str
  params : Arguments
  body : Expr
  scope : Scope
  cl : List (Str × Addr)
abbrev LF.fd (L : LF) (c : Addr) (dV doc pm ct : Value) : FuncData := PySem.W.kdv_fn "<lambda>" L.qual L.params (.expr L.body) L.scope L.cl dV doc pm (.ref c) ct
/-- the object at f is such a function -/
def LmO (f : Addr) (L : LF) (c : Addr) (dV : Value) : HO := .ext fun h => ∃ doc pm ct : Value, h.get? f = some ({ cls := .type "function", data := .func (L.fd c dV doc pm ct) } : Obj)
/-- the parameters that are served: none, or one that is a whole number unless told -/
def lamPar : Arguments → Option (List (Str × Int))
  | ⟨[], [], none, [], [], none, []⟩ => some []
  | ⟨[], [a], none, [], [], none, [.Constant (.int n) _ _]⟩ => some [(a.arg, n)]
  | _ => none
def DefF (F : Hp) : List (Str × Int) → Value → Prop
  | [], dV => dV = .none
  | [(_, n)], dV => ∃ T : Addr, dV = .ref T ∧ F T = some (.tup [.int n])
  | _, _ => False
/-- such a lambda stands at f -/
def LamAt (w : Wd) (L : LF) (f : Addr) : Prop := ∃ (c : Addr) (dV : Value) (ps : List (Str × Int)), lamPar L.params = some ps ∧ w.F f = some (LmO f L c dV) ∧ w.H c = some (LamX.CodeO c L.qual) ∧ c ∉ w.M ∧ DefF w.F ps dV
theorem DefF.mono {F F' : Hp} (h : Sub F F') : ∀ {ps : List (Str × Int)} {dV : Value}, DefF F ps dV → DefF F' ps dV
  | [], _, q => q
  | [_], _, ⟨T, e, q⟩ => ⟨T, e, h _ _ q⟩
  | _ :: _ :: _, _, q => q.elim
theorem LamAt.ext {w w' : Wd} {L : LF} {f : Addr} (l : LamAt w L f) (e : Ext w w') : LamAt w' L f := by
  obtain ⟨c, dV, ps, h1, h2, h3, h4, h5⟩ := l
  refine ⟨c, dV, ps, h1, e.fs _ _ h2, e.hs _ _ h3 h4 LamX.codeO_ne, fun z => ?_, h5.mono e.fs⟩
  obtain ⟨more, hm, nn⟩ := e.ms
  rw [hm] at z
  rcases List.mem_append.mp z with z | z
  · exact h4 z
  · have := nn c z
    rw [h3] at this
    cases this
/-- several of them -/
def LamsAt (w : Wd) : List LF → List V → Prop
  | [], vs => vs = []
  | L :: Ls, vs => ∃ f r, vs = .ref f :: r ∧ LamAt w L f ∧ LamsAt w Ls r
theorem LamsAt.ext {w w' : Wd} (e : Ext w w') : ∀ {Ls : List LF} {vs : List V}, LamsAt w Ls vs → LamsAt w' Ls vs
  | [], _, h => h
  | _ :: _, _, ⟨f, r, h1, h2, h3⟩ => ⟨f, r, h1, h2.ext e, LamsAt.ext e h3⟩

/-- .. a list beside them changes -/
theorem LamAt.put {w : Wd} {p : Addr} {us ys : List V} {L : LF} {f : Addr} (h : w.H p = some (.lst us)) (l : LamAt w L f) : LamAt { w with H := upd w.H p (.lst ys) } L f := by
  obtain ⟨c, dV, ps, h1, h2, h3, h4, h5⟩ := l
  refine ⟨c, dV, ps, h1, h2, ?_, h4, h5⟩
  show upd w.H p _ c = _
  rw [upd_ne (ne_of h3 h fun z => by unfold LamX.CodeO at z; cases z)]
  exact h3
theorem LamsAt.put {w : Wd} {p : Addr} {us ys : List V} (h : w.H p = some (.lst us)) : ∀ {Ls : List LF} {vs : List V}, LamsAt w Ls vs → LamsAt { w with H := upd w.H p (.lst ys) } Ls vs
  | [], _, q => q
  | _ :: _, _, ⟨f, r, h1, h2, h3⟩ => ⟨f, r, h1, h2.put h, LamsAt.put h h3⟩
/-- .. a shared list changes -/
theorem LamAt.setM {w : Wd} {p : Addr} {ys : List V} {S' : Store} {L : LF} {f : Addr} (h : p ∈ w.M) (l : LamAt w L f) : LamAt { w with H := upd w.H p (.lst ys), S := S' } L f := by
  obtain ⟨c, dV, ps, h1, h2, h3, h4, h5⟩ := l
  refine ⟨c, dV, ps, h1, h2, ?_, h4, h5⟩
  show upd w.H p _ c = _
  rw [upd_ne fun z => h4 (by rw [z]; exact h)]
  exact h3
theorem LamsAt.setM {w : Wd} {p : Addr} {ys : List V} {S' : Store} (h : p ∈ w.M) : ∀ {Ls : List LF} {vs : List V}, LamsAt w Ls vs → LamsAt { w with H := upd w.H p (.lst ys), S := S' } Ls vs
  | [], _, q => q
  | _ :: _, _, ⟨f, r, h1, h2, h3⟩ => ⟨f, r, h1, h2.setM h, LamsAt.setM h h3⟩

/-! ### the environment -/
/-- the frame that runs: where data lies, the slots whose lists are its own, the heap at its entry, the wish about exceptions, its lists of lambdas -/
structure Fm where
  G : Hd
  O : List Nat
  w0 : Wd
  Wx : WX
  cx : Nat → List D → Wd → Value → Option Addr → Prop
  lf : Nat → List LF → Prop

def OwnV (Z : Fm) (w : Wd) : D → V → Prop
  | .lst ds, v => ∃ p vs, v = .ref p ∧ w.F p = none ∧ Z.w0.H p = none ∧ p ∉ w.M ∧ w.H p = some (.lst vs) ∧ RepL Z.G w.F w.M ds vs
  | .clo l _, v => ∃ p vs Ls, v = .ref p ∧ w.F p = some (.lst vs) ∧ Z.lf l Ls ∧ LamsAt w Ls vs
  | _, _ => False
structure EnvR (Z : Fm) (w : Wd) (σ : Sl) (ρ : Env) : Prop where
  len : σ.length = ρ.length
  val : ∀ (i : Nat) (d : D), getV ρ i = some d → ∃ v, σ[i]? = some (some v) ∧ (i ∈ Z.O → OwnV Z w d v) ∧ (i ∉ Z.O → RepV Z.G w.F w.M d v)
  dis : ∀ (i j : Nat) (d e : D) (p : Addr), i ∈ Z.O → j ∈ Z.O → getV ρ i = some d → getV ρ j = some e → σ[i]? = some (some (.ref p)) → σ[j]? = some (some (.ref p)) → i = j
theorem OwnV.ext {Z : Fm} {w w' : Wd} {d : D} {v : V} (r : OwnV Z w d v) (e : Ext w w') : OwnV Z w' d v := by
  cases d with
  | lst ds =>
    obtain ⟨p, vs, e1, f, h0, m, h, q⟩ := r
    have hne : w.H p ≠ none := by rw [h]; simp
    refine ⟨p, vs, e1, (e.fn p hne).trans f, h0, fun z => ?_, e.hs p _ h m (fun ps z => by cases z), q.ext e⟩
    obtain ⟨more, hm, nn⟩ := e.ms
    rw [hm] at z
    rcases List.mem_append.mp z with z | z
    · exact m z
    · exact hne (nn p z)
  | clo l _ =>
    obtain ⟨p, vs, Ls, e1, f, k, q⟩ := r
    exact ⟨p, vs, Ls, e1, e.fs _ _ f, k, q.ext e⟩
  | _ => exact r.elim
theorem EnvR.ext {Z : Fm} {w w' : Wd} {σ : Sl} {ρ : Env} (r : EnvR Z w σ ρ) (e : Ext w w') : EnvR Z w' σ ρ :=
  ⟨r.len, fun i d h => let ⟨v, e1, o, q⟩ := r.val i d h; ⟨v, e1, fun hi => (o hi).ext e, fun hi => (q hi).ext e⟩, r.dis⟩

theorem getL_is {ρ : Env} {i : Nat} {d : D} (h : getL ρ i = some d) : getV ρ i = some d ∧ ∃ xs, d = .lst xs := by
  unfold getL at h
  split at h
  · rename_i xs e
    cases h
    exact ⟨e, xs, rfl⟩
  · cases h

/-! ### readings -/
/-- what is wanted behind an expression's value -/
def Post {α : Type} (Z : Fm) (σ : Sl) (w : Wd) (r : R α) (Q : α → Wd → Prop) : Prop := match r with
  | .ok d S' => ∀ w', Ext w w' → WOk Z.G w' → w'.S = S' → Q d w'
  | .ex c vs S' => ∀ w' cls dx, Ext w w' → WOk Z.G w' → w'.S = S' → Z.cx c vs w' cls dx → Z.Wx cls dx σ w'.H
  | .no => False
theorem Post.ext {α : Type} {Z : Fm} {σ : Sl} {w w1 : Wd} {r : R α} {Q : α → Wd → Prop} (p : Post Z σ w r Q) (e : Ext w w1) : Post Z σ w1 r Q := by
  cases r with
  | ok d S' => exact fun w' e' => p w' (e.trans e')
  | ex c vs S' => exact fun w' cls dx e' => p w' cls dx (e.trans e')
  | no => exact p.elim
theorem Post.imp {α : Type} {Z : Fm} {σ : Sl} {w : Wd} {r : R α} {Q Q' : α → Wd → Prop} (p : Post Z σ w r Q) (h : ∀ a w', Ext w w' → WOk Z.G w' → Q a w' → Q' a w') : Post Z σ w r Q' := by
  cases r with
  | ok d S' => exact fun w' e' k s => h _ _ e' k (p w' e' k s)
  | ex c vs S' => exact p
  | no => exact p.elim
theorem Post.bind {α β : Type} {Z : Fm} {σ : Sl} {w : Wd} {r : R α} {k : α → Store → R β} {Q : β → Wd → Prop} (p : Post Z σ w (r.bind k) Q) :
    Post Z σ w r fun a w1 => Post Z σ w1 (k a w1.S) Q := by
  cases r with
  | ok d S' =>
    intro w1 e k1 s
    subst s
    exact Post.ext p e
  | ex c vs S' => exact p
  | no => exact p.elim
theorem Post.of {α : Type} {Z : Fm} {σ : Sl} {w : Wd} {o : Option α} {Q : α → Wd → Prop} (ok : WOk Z.G w) (p : Post Z σ w (R.of o w.S) Q) : ∃ a, o = some a ∧ ∀ w', Ext w w' → WOk Z.G w' → w'.S = w.S → Q a w' := by
  cases o with
  | none => exact p.elim
  | some a => exact ⟨a, rfl, p⟩

/-- an expression's reading -/
def tG (Z : Fm) (g : Env → Store → R D) : TE := fun σ H Q => ∃ ρ w, w.H = H ∧ WOk Z.G w ∧ EnvR Z w σ ρ ∧ Post Z σ w (g ρ w.S) fun d w' => ∀ v, RepV Z.G w'.F w'.M d v → Q v w'.H
def tGA (Z : Fm) (g : Env → Store → R (List D)) : TA := fun σ H Q => ∃ ρ w, w.H = H ∧ WOk Z.G w ∧ EnvR Z w σ ρ ∧ Post Z σ w (g ρ w.S) fun ds w' => ∀ vs, RepL Z.G w'.F w'.M ds vs → Q vs w'.H
def tGT (Z : Fm) (g : Env → Store → R D) : TT := fun σ H Q => ∃ ρ w, w.H = H ∧ WOk Z.G w ∧ EnvR Z w σ ρ ∧ Post Z σ w ((g ρ w.S).bind toBl) fun b w' => Q b w'.H
/-- the same, a list of the frame's own at the top too -/
def RepB (Z : Fm) (w : Wd) (d : D) (v : V) : Prop := RepV Z.G w.F w.M d v ∨ ((∃ xs, d = .lst xs) ∧ OwnV Z w d v)
def tGB (Z : Fm) (g : Env → Store → R D) : TE := fun σ H Q => ∃ ρ w, w.H = H ∧ WOk Z.G w ∧ EnvR Z w σ ρ ∧ Post Z σ w (g ρ w.S) fun d w' => ∀ v, RepB Z w' d v → Q v w'.H
theorem RepB.ext {Z : Fm} {w w' : Wd} {d : D} {v : V} (r : RepB Z w d v) (e : Ext w w') : RepB Z w' d v := r.elim (fun r => .inl (r.ext e)) fun ⟨l, r⟩ => .inr ⟨l, r.ext e⟩

theorem PE.imp {X : Cx} {e : Expr} {t t' : TE} (h : PE X e t) (k : ∀ σ H Q, t' σ H Q → t σ H Q) : PE X e t' := ⟨fun pins s σ H Q I q => h.run pins s σ H Q I (k σ H Q q)⟩
theorem PT.imp {X : Cx} {e : Expr} {t t' : TT} (h : PT X e t) (k : ∀ σ H Q, t' σ H Q → t σ H Q) : PT X e t' := ⟨fun pins s σ H Q I q => h.run pins s σ H Q I (k σ H Q q)⟩
theorem PA.imp {X : Cx} {e : List Expr} {t t' : TA} (h : PA X e t) (k : ∀ σ H Q, t' σ H Q → t σ H Q) : PA X e t' := ⟨fun pos pins s σ H Q I q => h.run pos pins s σ H Q I (k σ H Q q)⟩
theorem PI.imp {X : Cx} {tg e : Expr} {t t' : TI} (h : PI X tg e t) (k : ∀ σ H Q, t' σ H Q → t σ H Q) : PI X tg e t' := ⟨fun pins s σ H Q I q => h.run pins s σ H Q I (k σ H Q q)⟩
theorem PS.imp {X : Cx} {e : Stmt} {t t' : TS} (h : PS X e t) (k : ∀ D σ H, t' D σ H → t D σ H) : PS X e t' := ⟨fun pins s σ H D I q => h.run pins s σ H D I (k D σ H q)⟩
theorem PSs.imp {X : Cx} {e : List Stmt} {t t' : TS} (h : PSs X e t) (k : ∀ D σ H, t' D σ H → t D σ H) : PSs X e t' := ⟨fun pins s σ H D I q => h.run pins s σ H D I (k D σ H q)⟩
end RB

set_option Elab.async false
set_option linter.all false
set_option maxRecDepth 100000
set_option maxHeartbeats 4000000
set_option autoImplicit false
/-! Operators and comparisons: what they make of values is what they make of plain data. -/
namespace RB
open PySem PySem.Spec PyProof.Rows L2

/-- two values in, by plain data, a value out -/
def rD2 (G : Hd) (f : D → D → Option D) : R2 := fun x y H Q => ∃ dx dy d w, w.H = H ∧ WOk G w ∧ RepV G w.F w.M dx x ∧ RepV G w.F w.M dy y ∧ f dx dy = some d ∧
  ∀ v w', Ext w w' → WOk G w' → w'.S = w.S → RepV G w'.F w'.M d v → Q v w'.H
def rD1 (G : Hd) (f : D → Option D) : V → Hp → VK → Prop := fun x H Q => ∃ dx d w, w.H = H ∧ WOk G w ∧ RepV G w.F w.M dx x ∧ f dx = some d ∧
  ∀ v w', Ext w w' → WOk G w' → w'.S = w.S → RepV G w'.F w'.M d v → Q v w'.H

section
variable {G : Hd} {F : Hp} {M : List Addr} {v : V}
theorem rep_non : RepV G F M .non v ↔ v = .non := by simp only [RepV]
theorem rep_bl {b : Bool} : RepV G F M (.bl b) v ↔ v = .bl b := by simp only [RepV]
theorem rep_int {b : Int} : RepV G F M (.int b) v ↔ v = .int b := by simp only [RepV]
theorem rep_str {b : List Nat} : RepV G F M (.str b) v ↔ v = .str (strV b) := by simp only [RepV]
theorem rep_tup {ds : List D} : RepV G F M (.tup ds) v ↔ ∃ a vs, v = .ref a ∧ SqT G.K F a vs ∧ RepL G F M ds vs := by simp only [RepV]
theorem rep_lst {ds : List D} : RepV G F M (.lst ds) v ↔ ∃ a vs, v = .ref a ∧ F a = some (.lst vs) ∧ RepL G F M ds vs := by simp only [RepV]
theorem rep_scr {ns : List Int} : RepV G F M (.scr ns) v ↔ ∃ a, v = .ref a ∧ SqL G.K F a (ns.map V.int) := by simp only [RepV]
theorem rep_ref {n : Nat} : RepV G F M (.ref n) v ↔ ∃ a, M[n]? = some a ∧ v = .ref a := by simp only [RepV]
theorem rep_clo {l : Nat} {ds : List D} : RepV G F M (.clo l ds) v ↔ ∃ a, v = .ref a ∧ G.co a l ds := by simp only [RepV]
theorem rep_obj {c : Nat} {ds : List D} : RepV G F M (.obj c ds) v ↔ ∃ a C dx ns vs, v = .ref a ∧ G.cls c = some (C, ns) ∧ F a = some (.ins C dx (ns.zip vs)) ∧ ns.length = vs.length ∧ RepL G F M ds vs := by simp only [RepV]
theorem rep_dic {ks : List (Int ⊕ List Nat)} {ds : List D} : RepV G F M (.dic ks ds) v ↔ ∃ a vs, v = .ref a ∧ Rd F a (.dK ((ks.map keyV).zip vs)) ∧ ks.length = vs.length ∧ RepL G F M ds vs := by simp only [RepV]
end
theorem strV_len (s : List Nat) : (strV s).length = s.length := by simp [strV, Str.length]
theorem strV_app (s t : List Nat) : strV (s ++ t) = strV s ++ strV t := by
  apply TL.ext_tl
  rw [TL.tl_append]
  simp only [strV, TL.tl_mk]
theorem strV_tl (s : List Nat) : (strV s).cps.toList = s := by simp [strV]
theorem strV_inj {s t : List Nat} (h : strV s = strV t) : s = t := by
  have := congrArg (fun z : Str => z.cps.toList) h
  simpa [strV] using this
theorem lim_line {n : Nat} (h : n ≤ LIM) : n ≤ sizeLine := by
  rw [sizeLine_eq]
  have : LIM = 1000000 := rfl
  omega
theorem lim_lt {n : Nat} (h : n < LIM) : n < sizeLine := by
  rw [sizeLine_eq]
  have : LIM = 1000000 := rfl
  omega

def opOf : BOp → Operator
  | .add => .Add | .sub => .Sub | .mul => .Mult | .fdiv => .FloorDiv | .mod => .Mod | .pow => .Pow | .shl => .LShift | .shr => .RShift | .xor => .BitXor | .band => .BitAnd

/-- a new tuple, a new list -/
theorem rep_newT {G : Hd} {w : Wd} (ok : WOk G w) {p : Addr} {ds : List D} {vs : List V} (n : w.H p = none) (r : RepL G w.F w.M ds vs) : RepV G (w.new p (.tup vs)).F (w.new p (.tup vs)).M (.tup ds) (.ref p) :=
  rep_tup.mpr ⟨p, vs, rfl, .inl (.inl upd_same), r.ext (Wd.new_ext ok.sub n)⟩
theorem rep_newL {G : Hd} {w : Wd} (ok : WOk G w) {p : Addr} {ds : List D} {vs : List V} (n : w.H p = none) (r : RepL G w.F w.M ds vs) : RepV G (w.new p (.lst vs)).F (w.new p (.lst vs)).M (.lst ds) (.ref p) :=
  rep_lst.mpr ⟨p, vs, rfl, upd_same, r.ext (Wd.new_ext ok.sub n)⟩
theorem RepL.nil_iff {G : Hd} {F : Hp} {M : List Addr} {ds : List D} {vs : List V} (r : RepL G F M ds vs) : vs = [] ↔ ds = [] := by
  have := r.length
  constructor
  · rintro rfl
    exact List.eq_nil_of_length_eq_zero (by simpa using this)
  · rintro rfl
    exact List.eq_nil_of_length_eq_zero (by simpa using this.symm)

theorem bits_le {n : Nat} (h : 1 ≤ n) : n < 2 ^ (n.log2 + 1) := Nat.lt_log2_self

section
variable {X : Cx} {G : Hd}
theorem op_cat' : OpR X (binaryOp .Add) (fun x y H Q => ∃ l b xs zs, x = .ref l ∧ y = .ref b ∧ H l = some (.lst xs) ∧ H b = some (.lst zs) ∧ xs.length + zs.length ≤ sizeLine ∧ ∀ p, H p = none → Q (.ref p) (upd H p (.lst (xs ++ zs)))) := op_cat

/-- a text, so many times -/
theorem op_rep_str : OpR X (binaryOp .Mult) (fun x y H Q => ∃ (s : List Nat) (k : Int), x = .str (strV s) ∧ y = .int k ∧ s.length * k.toNat ≤ LIM ∧ k.natAbs ≤ LIM ∧ Q (.str (strV (rep k.toNat s))) H) := by
  intro pins s σ H x y v u Q I rx ry h
  obtain ⟨z, k, rfl, rfl, hz, hk, q⟩ := h
  obtain ⟨t, rfl⟩ := rx
  obtain ⟨t', rfl⟩ := ry
  have hL : LIM = 1000000 := rfl
  have hs : sizeLine = 16777216 := sizeLine_eq
  refine P.mul_str (by rw [decide_eq_false (by omega), decide_eq_false (by omega)]; rfl) (fun h1 _ => ?_) (fun h1 _ => ?_) ?_
  · rw [strV_len]
    intro hh
    have h2 : (z.length : Int) * k ≤ 1000000 := by
      have e : ((z.length * k.toNat : Nat) : Int) ≤ 1000000 := by omega
      rw [Int.natCast_mul, Int.toNat_of_nonneg (by omega)] at e
      exact e
    have h3 : ((2 : Int) ^ 63 - 1) / k < z.length := hh
    have h4 := (Int.ediv_lt_iff_lt_mul (by omega)).mp h3
    omega
  · rw [strV_len]
    unfold Builtin.Str.tooLong
    rw [hs]
    exact decide_eq_false (by omega)
  · by_cases h1 : k < 1
    · rw [if_pos h1]
      have e0 : k.toNat = 0 := by omega
      rw [e0] at q
      exact ⟨by decide, .str (strV (rep 0 z)), H, I.tok _, ⟨s.toks, by simp [rep, strV, Str.empty]⟩, q⟩
    · rw [if_neg h1]
      by_cases h2 : (k == 1 || (strV z).length == 0) = true
      · rw [if_pos h2]
        refine ⟨.str (strV (rep k.toNat z)), H, I, ⟨t, ?_⟩, q⟩
        have e : rep k.toNat z = z := by
          rcases Bool.or_eq_true_iff.mp h2 with h2 | h2
          · have : k = 1 := by simpa using h2
            subst this
            simp [rep]
          · rw [strV_len] at h2
            have : z = [] := List.eq_nil_of_length_eq_zero (by simpa using h2)
            subst this
            simp [rep]
        rw [e]
      · rw [if_neg h2]
        have e : (⟨(List.replicate k.toNat (strV z).cps).foldl (· ++ ·) #[]⟩ : Str) = strV (rep k.toNat z) := by
          have g : ∀ (n : Nat) (acc : List Nat), (List.replicate n z.toArray).foldl (· ++ ·) acc.toArray = (acc ++ rep n z).toArray := by
            intro n
            induction n with
            | zero => intro acc; simp [rep]
            | succ n ih =>
              intro acc
              rw [List.replicate_succ, List.foldl_cons, show acc.toArray ++ z.toArray = (acc ++ z).toArray by simp, ih]
              simp [rep, List.replicate_succ]
          have := g k.toNat []
          simp only [strV]
          rw [show (#[] : Array Nat) = ([] : List Nat).toArray by rfl, this]
          simp
        rw [e]
        refine ⟨?_, .str _, H, I.tok _, ⟨_, rfl⟩, q⟩
        first
          | (rw [strV_len]; simp [rep, hs]; rw [Nat.mul_comm]; omega)
          | skip

/-- what the end of an operation asks -/
theorem fin_val {pins : List (Addr × Obj)} {σ : Sl} {H : Hp} {s : Shared} {w w' : Wd} {d : D} {v : V} {u : Value} {Q : VK} (k : ∀ v w', Ext w w' → WOk G w' → w'.S = w.S → RepV G w'.F w'.M d v → Q v w'.H)
    (I : Inv X pins σ w'.H s) (e : Ext w w') (ok : WOk G w') (es : w'.S = w.S) (r : RepV G w'.F w'.M d v) (ru : RelV v u) : EP X pins σ Q u s := ⟨v, w'.H, I, ru, k v w' e ok es r⟩

theorem bin_ok (hK : X.K = G.K) (o : BOp) : OpR X (binaryOp (opOf o)) (rD2 G (bin o)) := by
  intro pins s σ H x y v u Q I rx ry q
  obtain ⟨dx, dy, d, w, rfl, ok, r1, r2, e, k⟩ := q
  unfold bin at e
  split at e
  · -- int + int
    cases e
    rw [rep_int] at r1 r2
    exact op_add pins s σ w.H x y v u Q I rx ry ⟨_, _, r1, r2, k _ w (Ext.refl w) ok rfl (rep_int.mpr rfl)⟩
  · split at e
    · cases e
      rename_i h
      rw [rep_str] at r1 r2
      refine op_add_str pins s σ w.H x y v u Q I rx ry ⟨_, _, r1, r2, ?_, k _ w (Ext.refl w) ok rfl ?_⟩
      · rw [strV_len, strV_len]
        exact lim_line h
      · rw [rep_str, strV_app]
    · cases e
  · split at e
    · cases e
      rename_i xs ys h
      rw [rep_tup] at r1 r2
      obtain ⟨a, vs, rfl, q1, l1⟩ := r1
      obtain ⟨b, us, rfl, q2, l2⟩ := r2
      refine op_catA pins s σ w.H _ _ v u Q I rx ry ⟨a, b, vs, us, rfl, rfl, by rw [hK]; exact ok.sub.sqT q1, by rw [hK]; exact ok.sub.sqT q2, ?_, fun z => ?_, fun z z2 => ?_, fun z z2 p n => ?_⟩
      · rw [← l1.length, ← l2.length]
        exact lim_line h
      · have z' := l1.nil_iff.mp z
        subst z'
        exact k _ w (Ext.refl w) ok rfl (rep_tup.mpr ⟨b, us, rfl, q2, l2⟩)
      · have z' := l2.nil_iff.mp z2
        subst z'
        rw [List.append_nil] at k
        exact k _ w (Ext.refl w) ok rfl (rep_tup.mpr ⟨a, vs, rfl, q1, l1⟩)
      · exact k _ (w.new p (.tup (vs ++ us))) (Wd.new_ext ok.sub n) (ok.new n (fun ps z => by cases z)) rfl (rep_newT ok n (l1.append l2))
    · cases e
  · split at e
    · cases e
      rename_i xs ys h
      rw [rep_lst] at r1 r2
      obtain ⟨a, vs, rfl, q1, l1⟩ := r1
      obtain ⟨b, us, rfl, q2, l2⟩ := r2
      refine op_cat pins s σ w.H _ _ v u Q I rx ry ⟨a, b, vs, us, rfl, rfl, ok.sub _ _ q1, ok.sub _ _ q2, ?_, fun p n => ?_⟩
      · rw [← l1.length, ← l2.length]
        exact lim_line h
      · exact k _ (w.new p (.lst (vs ++ us))) (Wd.new_ext ok.sub n) (ok.new n (fun ps z => by cases z)) rfl (rep_newL ok n (l1.append l2))
    · cases e
  · cases e
    rw [rep_int] at r1 r2
    exact op_sub pins s σ w.H x y v u Q I rx ry ⟨_, _, r1, r2, k _ w (Ext.refl w) ok rfl (rep_int.mpr rfl)⟩
  · split at e
    · cases e
      rename_i i j h
      rw [rep_int] at r1 r2
      have kk := k (.int (i * j)) w (Ext.refl w) ok rfl (rep_int.mpr rfl)
      unfold mulOk at h
      rcases Bool.or_eq_true_iff.mp h with h | h
      · rcases Bool.or_eq_true_iff.mp h with h | h
        · have h := of_decide_eq_true h
          exact op_mul pins s σ w.H x y v u Q I rx ry ⟨_, _, r1, r2, .inl (by omega), kk⟩
        · have h := of_decide_eq_true h
          exact op_mul pins s σ w.H x y v u Q I rx ry ⟨_, _, r1, r2, .inr (by omega), kk⟩
      · have h := of_decide_eq_true h
        exact op_mulW pins s σ w.H x y v u Q I rx ry ⟨_, _, r1, r2, (by unfold CMulW; omega), kk⟩
    · cases e
  · split at e
    · cases e
      rename_i xs j h
      obtain ⟨h1, h2⟩ := h
      rw [rep_lst] at r1
      rw [rep_int] at r2
      obtain ⟨a, vs, rfl, q1, l1⟩ := r1
      have hL : LIM = 1000000 := rfl
      refine op_rep pins s σ w.H _ _ v u Q I rx ry ⟨a, j, vs, rfl, r2, ok.sub _ _ q1, by omega, by omega, ?_, fun p n => ?_⟩
      · rw [← l1.length]
        exact lim_line h1
      · exact k _ (w.new p (.lst (List.replicate j.toNat vs).flatten)) (Wd.new_ext ok.sub n) (ok.new n (fun ps z => by cases z)) rfl (rep_newL ok n (l1.flat (n := j.toNat)))
    · cases e
  · cases e
  · split at e
    · cases e
      rename_i xs j h
      obtain ⟨h1, h2⟩ := h
      rw [rep_str] at r1
      rw [rep_int] at r2
      exact op_rep_str pins s σ w.H _ _ v u Q I rx ry ⟨_, _, r1, r2, h1, h2, k _ w (Ext.refl w) ok rfl (rep_str.mpr rfl)⟩
    · cases e
  · split at e
    · cases e
      rename_i i j h
      rw [rep_int] at r1 r2
      exact op_fdiv pins s σ w.H x y v u Q I rx ry ⟨_, _, r1, r2, h, k _ w (Ext.refl w) ok rfl (rep_int.mpr rfl)⟩
    · cases e
  · split at e
    · cases e
      rename_i i j h
      rw [rep_int] at r1 r2
      exact op_mod pins s σ w.H x y v u Q I rx ry ⟨_, _, r1, r2, h, k _ w (Ext.refl w) ok rfl (rep_int.mpr rfl)⟩
    · cases e
  · split at e
    · cases e
      rename_i i j h
      rw [rep_int] at r1 r2
      exact op_pow pins s σ w.H x y v u Q I rx ry ⟨_, _, r1, r2, h, k _ w (Ext.refl w) ok rfl (rep_int.mpr rfl)⟩
    · cases e
  · split at e
    · cases e
      rename_i i j h
      rw [rep_int] at r1 r2
      exact op_shl pins s σ w.H x y v u Q I rx ry ⟨_, _, r1, r2, h, k _ w (Ext.refl w) ok rfl (rep_int.mpr rfl)⟩
    · cases e
  · split at e
    · cases e
      rename_i i j h
      rw [rep_int] at r1 r2
      exact op_shr pins s σ w.H x y v u Q I rx ry ⟨_, _, r1, r2, h, k _ w (Ext.refl w) ok rfl (rep_int.mpr rfl)⟩
    · cases e
  · split at e
    · cases e
      rename_i i j h
      rw [rep_int] at r1 r2
      refine op_xor pins s σ w.H x y v u Q I rx ry ⟨_, _, r1, r2, k _ w (Ext.refl w) ok rfl (rep_int.mpr ?_)⟩
      show V.int (Builtin.bitXor i j) = _
      rw [Bits.bitXor_pp h.1 h.2]
      rfl
    · cases e
  · split at e
    · cases e
      rename_i i j h
      rw [rep_int] at r1 r2
      refine op_and pins s σ w.H x y v u Q I rx ry ⟨_, _, r1, r2, k _ w (Ext.refl w) ok rfl (rep_int.mpr ?_)⟩
      show V.int (Builtin.bitAnd i j) = _
      rw [PyProof.Rows.bitAnd_pp h.1 h.2]
      rfl
    · cases e
  · cases e
end
end RB

set_option Elab.async false
set_option linter.all false
set_option maxRecDepth 100000
set_option maxHeartbeats 4000000
set_option autoImplicit false
/-! Comparisons. -/
namespace RB
open PySem PySem.Spec PyProof.Rows L2

/-! ### data as the library tells it -/
mutual
def toPD : D → PyData
  | .non => .none
  | .bl b => .bool b
  | .int i => .int i
  | .str s => .str (strV s)
  | .tup ds => .tuple (toPDs ds)
  | .lst ds => .list (toPDs ds)
  | _ => .none
def toPDs : List D → List PyData
  | [] => []
  | d :: ds => toPD d :: toPDs ds
end
theorem strOk_of {s : List Nat} (h : (s.all fun c => decide (c < 1114112)) = true) : PySem.PyData.strOk (strV s) = true := by
  show (strV s).cps.all (· < 0x110000) = true
  simpa [strV] using h
mutual
theorem canLay_of_fine : ∀ {n : Nat} {d : D}, fine n d = true → (toPD d).canLay0 = true
  | _, .non, _ => by simp only [toPD, PyData.canLay0]
  | _, .bl _, _ => by simp only [toPD, PyData.canLay0]
  | _, .int _, _ => by simp only [toPD, PyData.canLay0]
  | n, .str s, h => by
    simp only [toPD, PyData.canLay0]
    refine strOk_of ?_
    cases n <;> simpa only [fine] using h
  | n + 1, .tup ds, h => by
    simp only [toPD, PyData.canLay0]
    exact canLays_of_fine (by simpa only [fine] using h)
  | n + 1, .lst ds, h => by
    simp only [toPD, PyData.canLay0]
    exact canLays_of_fine (by simpa only [fine] using h)
  | 0, .tup ds, h => by simp [fine] at h
  | 0, .lst ds, h => by simp [fine] at h
  | 0, .dic _ _, h => by simp [fine] at h
  | 0, .obj _ _, h => by simp [fine] at h
  | 0, .fn _, h => by simp [fine] at h
  | 0, .clo _ _, h => by simp [fine] at h
  | 0, .ref _, h => by simp [fine] at h
  | 0, .scr _, h => by simp [fine] at h
  | n + 1, .dic _ _, h => by simp [fine] at h
  | n + 1, .obj _ _, h => by simp [fine] at h
  | n + 1, .fn _, h => by simp [fine] at h
  | n + 1, .clo _ _, h => by simp [fine] at h
  | n + 1, .ref _, h => by simp [fine] at h
  | n + 1, .scr _, h => by simp [fine] at h
theorem canLays_of_fine : ∀ {n : Nat} {ds : List D}, fines n ds = true → PyData.canLayAll0 (toPDs ds) = true
  | _, [], _ => by simp only [toPDs, PyData.canLayAll0]
  | n, d :: ds, h => by
    simp only [fines, Bool.and_eq_true] at h
    simp only [toPDs, PyData.canLayAll0, Bool.and_eq_true]
    exact ⟨canLay_of_fine h.1, canLays_of_fine h.2⟩
end
mutual
theorem depth_of_fine : ∀ {n : Nat} {d : D}, fine n d = true → (toPD d).depth ≤ n
  | _, .non, _ => by simp only [toPD, PyData.depth]; omega
  | _, .bl _, _ => by simp only [toPD, PyData.depth]; omega
  | _, .int _, _ => by simp only [toPD, PyData.depth]; omega
  | _, .str _, _ => by simp only [toPD, PyData.depth]; omega
  | n + 1, .tup ds, h => by
    simp only [toPD, PyData.depth]
    have := depths_of_fine (n := n) (ds := ds) (by simpa only [fine] using h)
    omega
  | n + 1, .lst ds, h => by
    simp only [toPD, PyData.depth]
    have := depths_of_fine (n := n) (ds := ds) (by simpa only [fine] using h)
    omega
  | 0, .tup ds, h => by simp [fine] at h
  | 0, .lst ds, h => by simp [fine] at h
  | _, .dic _ _, _ => by simp only [toPD, PyData.depth]; omega
  | _, .obj _ _, _ => by simp only [toPD, PyData.depth]; omega
  | _, .fn _, _ => by simp only [toPD, PyData.depth]; omega
  | _, .clo _ _, _ => by simp only [toPD, PyData.depth]; omega
  | _, .ref _, _ => by simp only [toPD, PyData.depth]; omega
  | _, .scr _, _ => by simp only [toPD, PyData.depth]; omega
theorem depths_of_fine : ∀ {n : Nat} {ds : List D}, fines n ds = true → PyData.depthAll (toPDs ds) ≤ n
  | _, [], _ => by simp only [toPDs, PyData.depthAll]; omega
  | n, d :: ds, h => by
    simp only [fines, Bool.and_eq_true] at h
    simp only [toPDs, PyData.depthAll]
    have := depth_of_fine h.1
    have := depths_of_fine h.2
    omega
end
theorem shaped_of_fine {n : Nat} {d : D} (hn : n ≤ 64) (h : fine n d = true) : SeqAt.shaped (toPD d) = true := by
  unfold SeqAt.shaped
  rw [canLay_of_fine h, Bool.true_and]
  have := depth_of_fine h
  exact decide_eq_true (by omega)
theorem shapeds_of_fine {n : Nat} {ds : List D} (hn : n < 64) (h : fines n ds = true) : SeqAt.shaped (.list (toPDs ds)) = true ∧ SeqAt.shaped (.tuple (toPDs ds)) = true := by
  unfold SeqAt.shaped
  have := depths_of_fine h
  simp only [PyData.canLay0, PyData.depth, canLays_of_fine h, Bool.true_and]
  exact ⟨decide_eq_true (by omega), decide_eq_true (by omega)⟩
mutual
theorem dp_of {G : Hd} {F H : Hp} {M : List Addr} (hs : Sub F H) : ∀ {n : Nat} {d : D} {v : V}, fine n d = true → RepV G F M d v → Dp G.K H v (toPD d)
  | _, .non, _, _, r => by
    rw [rep_non] at r
    subst r
    simp only [toPD]
    exact .non
  | _, .bl _, _, _, r => by
    rw [rep_bl] at r
    subst r
    simp only [toPD]
    exact .bl _
  | _, .int _, _, _, r => by
    rw [rep_int] at r
    subst r
    simp only [toPD]
    exact .int _
  | _, .str _, _, _, r => by
    rw [rep_str] at r
    subst r
    simp only [toPD]
    exact .str _
  | n + 1, .tup ds, _, h, r => by
    rw [rep_tup] at r
    obtain ⟨a, vs, rfl, q, l⟩ := r
    simp only [toPD]
    exact .tup (hs.sqT q) (dps_of hs (by simpa only [fine] using h) l)
  | n + 1, .lst ds, _, h, r => by
    rw [rep_lst] at r
    obtain ⟨a, vs, rfl, q, l⟩ := r
    simp only [toPD]
    exact .lst (SqL.of (hs _ _ q)) (dps_of hs (by simpa only [fine] using h) l)
  | 0, .tup ds, _, h, _ => by simp [fine] at h
  | 0, .lst ds, _, h, _ => by simp [fine] at h
  | 0, .dic _ _, _, h, _ => by simp [fine] at h
  | 0, .obj _ _, _, h, _ => by simp [fine] at h
  | 0, .fn _, _, h, _ => by simp [fine] at h
  | 0, .clo _ _, _, h, _ => by simp [fine] at h
  | 0, .ref _, _, h, _ => by simp [fine] at h
  | 0, .scr _, _, h, _ => by simp [fine] at h
  | n + 1, .dic _ _, _, h, _ => by simp [fine] at h
  | n + 1, .obj _ _, _, h, _ => by simp [fine] at h
  | n + 1, .fn _, _, h, _ => by simp [fine] at h
  | n + 1, .clo _ _, _, h, _ => by simp [fine] at h
  | n + 1, .ref _, _, h, _ => by simp [fine] at h
  | n + 1, .scr _, _, h, _ => by simp [fine] at h
theorem dps_of {G : Hd} {F H : Hp} {M : List Addr} (hs : Sub F H) : ∀ {n : Nat} {ds : List D} {vs : List V}, fines n ds = true → RepL G F M ds vs → DpAll G.K H vs (toPDs ds)
  | _, [], _, _, r => by
    simp only [RepL] at r
    subst r
    simp only [toPDs]
    exact .nil
  | n, d :: ds, _, h, r => by
    simp only [fines, Bool.and_eq_true] at h
    simp only [RepL] at r
    obtain ⟨v, t, rfl, q, l⟩ := r
    simp only [toPDs]
    exact .cons (dp_of hs h.1 q) (dps_of hs h.2 l)
end
theorem str_beq (x y : List Nat) : (strV x == strV y) = (x == y) := by
  by_cases e : x = y
  · subst e
    simp
  · have h : ¬ strV x = strV y := fun z => e (strV_inj z)
    rw [beq_eq_false_iff_ne.mpr h, beq_eq_false_iff_ne.mpr e]
mutual
theorem eqv_of : ∀ {n m : Nat} {d e : D}, fine n d = true → fine m e = true → PyData.eqv (toPD d) (toPD e) = pyEq d e := by
  intro n m d e h k
  cases d <;> cases e <;> first
    | (simp only [toPD, PyData.eqv, pyEq, str_beq]; done)
    | (cases n with
        | zero => simp [fine] at h
        | succ n => cases m with
          | zero => simp [fine] at k
          | succ m =>
            simp only [toPD, PyData.eqv, pyEq]
            exact eqvs_of (by simpa only [fine] using h) (by simpa only [fine] using k))
    | (cases n <;> simp [fine] at h <;> done)
    | (cases m <;> simp [fine] at k <;> done)
theorem eqvs_of : ∀ {n m : Nat} {ds es : List D}, fines n ds = true → fines m es = true → PyData.eqvAll (toPDs ds) (toPDs es) = pyEqs ds es := by
  intro n m ds es h k
  cases ds with
  | nil => cases es <;> simp only [toPDs, PyData.eqvAll, pyEqs]
  | cons d ds =>
    cases es with
    | nil => simp only [toPDs, PyData.eqvAll, pyEqs]
    | cons e es =>
      simp only [fines, Bool.and_eq_true] at h k
      simp only [toPDs, PyData.eqvAll, pyEqs]
      rw [eqv_of h.1 k.1, eqvs_of h.2 k.2]
end
end RB

set_option Elab.async false
set_option linter.all false
set_option maxRecDepth 100000
set_option maxHeartbeats 4000000
set_option autoImplicit false
/-! What a comparison gives. -/
namespace RB
open PySem PySem.Spec PyProof.Rows L2

def copOf : COp → CmpOp
  | .eq => .Eq | .ne => .NotEq | .lt => .Lt | .le => .LtE | .gt => .Gt | .ge => .GtE | .inn => .In | .nin => .NotIn | .iss => .Is | .isn => .IsNot

/-- two values in, a truth value out, the heap as it was -/
def rC (G : Hd) (f : D → D → Option Bool) : R2 := fun x y H Q => ∃ dx dy b w, w.H = H ∧ WOk G w ∧ RepV G w.F w.M dx x ∧ RepV G w.F w.M dy y ∧ f dx dy = some b ∧ Q (.bl b) H

theorem strLt_eq : ∀ x y : List Nat, strLt x y = decide (x < y)
  | [], [] => by simp [strLt]
  | _ :: _, [] => by simp [strLt]
  | [], _ :: _ => by simp [strLt]
  | x :: xs, y :: ys => by
    rw [strLt, strLt_eq xs ys]
    by_cases h : x < y
    · simp [h, List.cons_lt_cons_iff]
    · by_cases e : x = y
      · simp [e, List.cons_lt_cons_iff]
      · simp [h, e, List.cons_lt_cons_iff]

section
variable {X : Cx} {G : Hd} {F : Hp} {M : List Addr}
/-- flat data, as a value -/
theorem flat_rep {d : D} {v : V} (f : flat d = true) (r : RepV G F M d v) : flatV v = true ∧ ∀ {e : D} {u : V}, flat e = true → RepV G F M e u → eqV v u = pyEq d e := by
  cases d with
  | non =>
    rw [rep_non] at r
    subst r
    refine ⟨rfl, fun {e u} fe re => ?_⟩
    cases e with
    | non => rw [rep_non] at re; subst re; rfl
    | bl b => rw [rep_bl] at re; subst re; rfl
    | int i => rw [rep_int] at re; subst re; rfl
    | str t => rw [rep_str] at re; subst re; rfl
    | _ => simp [flat] at fe
  | bl a =>
    rw [rep_bl] at r
    subst r
    refine ⟨rfl, fun {e u} fe re => ?_⟩
    cases e with
    | non => rw [rep_non] at re; subst re; rfl
    | bl b => rw [rep_bl] at re; subst re; rfl
    | int i => rw [rep_int] at re; subst re; rfl
    | str t => rw [rep_str] at re; subst re; rfl
    | _ => simp [flat] at fe
  | int a =>
    rw [rep_int] at r
    subst r
    refine ⟨rfl, fun {e u} fe re => ?_⟩
    cases e with
    | non => rw [rep_non] at re; subst re; rfl
    | bl b => rw [rep_bl] at re; subst re; rfl
    | int i => rw [rep_int] at re; subst re; rfl
    | str t => rw [rep_str] at re; subst re; rfl
    | _ => simp [flat] at fe
  | str a =>
    rw [rep_str] at r
    subst r
    refine ⟨rfl, fun {e u} fe re => ?_⟩
    cases e with
    | non => rw [rep_non] at re; subst re; rfl
    | bl b => rw [rep_bl] at re; subst re; rfl
    | int i => rw [rep_int] at re; subst re; rfl
    | str t =>
      rw [rep_str] at re
      subst re
      show (strV a == strV t) = (a == t)
      exact str_beq a t
    | _ => simp [flat] at fe
  | _ => simp [flat] at f
theorem flats_rep : ∀ {ds : List D} {vs : List V}, ds.all flat = true → RepL G F M ds vs → vs.all flatV = true ∧ ∀ {e : D} {u : V}, flat e = true → RepV G F M e u → vs.any (fun y => eqV y u) = ds.any fun y => pyEq y e
  | [], _, _, r => by
    simp only [RepL] at r
    subst r
    exact ⟨rfl, fun _ _ => rfl⟩
  | d :: ds, _, f, r => by
    simp only [RepL] at r
    obtain ⟨v, t, rfl, q, l⟩ := r
    rw [List.all_cons, Bool.and_eq_true] at f
    obtain ⟨a1, a2⟩ := flat_rep f.1 q
    obtain ⟨b1, b2⟩ := flats_rep f.2 l
    refine ⟨by rw [List.all_cons, a1, b1]; rfl, fun {e u} fe re => ?_⟩
    rw [List.any_cons, List.any_cons, a2 fe re, b2 fe re]

/-- == of flat data -/
theorem eq_flat (hu : X.A.units + 64 < cLine) (hK : X.K = G.K) {pins : List (Addr × Obj)} {s : Shared} {σ : Sl} {w : Wd} {dx dy : D} {x y : V} {v u : Value} {Q : VK} (I : Inv X pins σ w.H s) (rx : RelV x v) (ry : RelV y u) (ok : WOk G w)
    (r1 : RepV G w.F w.M dx x) (r2 : RepV G w.F w.M dy y) (f1 : flat dx = true) (f2 : flat dy = true) :
    (Q (.bl (pyEq dx dy)) w.H → wpAny (model X.prog X.w) X.A (compareOp .Eq v u) (EP X pins σ Q) X.xe s) ∧ (Q (.bl (!pyEq dx dy)) w.H → wpAny (model X.prog X.w) X.A (compareOp .NotEq v u) (EP X pins σ Q) X.xe s) := by
  have main : ∀ c : Bool, scal x y = true → decide (x = y) = pyEq dx dy → (Q (.bl (pyEq dx dy)) w.H → wpAny (model X.prog X.w) X.A (compareOp .Eq v u) (EP X pins σ Q) X.xe s) ∧ (Q (.bl (!pyEq dx dy)) w.H → wpAny (model X.prog X.w) X.A (compareOp .NotEq v u) (EP X pins σ Q) X.xe s) := fun _ h e =>
    ⟨fun q => op_eq pins s σ w.H x y v u Q I rx ry ⟨h, by rw [e]; exact q⟩, fun q => op_ne pins s σ w.H x y v u Q I rx ry ⟨h, by rw [e]; exact q⟩⟩
  have other : fine 0 dx = true → fine 0 dy = true → (Q (.bl (pyEq dx dy)) w.H → wpAny (model X.prog X.w) X.A (compareOp .Eq v u) (EP X pins σ Q) X.xe s) ∧ (Q (.bl (!pyEq dx dy)) w.H → wpAny (model X.prog X.w) X.A (compareOp .NotEq v u) (EP X pins σ Q) X.xe s) := fun h1 h2 => by
    have d1 := dp_of ok.sub h1 r1
    have d2 := dp_of ok.sub h2 r2
    have s1 := shaped_of_fine (by omega) h1
    have s2 := shaped_of_fine (by omega) h2
    have e := eqv_of h1 h2
    rw [← hK] at d1 d2
    exact ⟨fun q => op_eqD hu pins s σ w.H x y v u Q I rx ry ⟨_, _, d1, d2, s1, s2, by rw [e]; exact q⟩, fun q => op_neD hu pins s σ w.H x y v u Q I rx ry ⟨_, _, d1, d2, s1, s2, by rw [e]; exact q⟩⟩
  cases dx with
  | non =>
    have r1' := rep_non.mp r1
    subst r1'
    cases dy with
    | non => have r2' := rep_non.mp r2; subst r2'; exact main true rfl rfl
    | bl b => have r2' := rep_bl.mp r2; subst r2'; exact main true rfl rfl
    | int i => have r2' := rep_int.mp r2; subst r2'; exact main true rfl rfl
    | str t => have r2' := rep_str.mp r2; subst r2'; exact main true rfl rfl
    | _ => simp [flat] at f2
  | bl a =>
    have r1' := rep_bl.mp r1
    subst r1'
    cases dy with
    | non => have r2' := rep_non.mp r2; subst r2'; exact main true rfl rfl
    | bl b => have r2' := rep_bl.mp r2; subst r2'; exact main true rfl (by simp [pyEq, Bool.beq_eq_decide_eq])
    | int i => exact other rfl rfl
    | str t => have r2' := rep_str.mp r2; subst r2'; exact main true rfl rfl
    | _ => simp [flat] at f2
  | int a =>
    have r1' := rep_int.mp r1
    subst r1'
    cases dy with
    | non => have r2' := rep_non.mp r2; subst r2'; exact main true rfl rfl
    | bl b => exact other rfl rfl
    | int i => have r2' := rep_int.mp r2; subst r2'; exact main true rfl (by simp [pyEq]; rfl)
    | str t => have r2' := rep_str.mp r2; subst r2'; exact main true rfl rfl
    | _ => simp [flat] at f2
  | str a =>
    have r1' := rep_str.mp r1
    subst r1'
    cases dy with
    | non => have r2' := rep_non.mp r2; subst r2'; exact main true rfl rfl
    | bl b => have r2' := rep_bl.mp r2; subst r2'; exact main true rfl rfl
    | int i => have r2' := rep_int.mp r2; subst r2'; exact main true rfl rfl
    | str t =>
      have r2' := rep_str.mp r2
      subst r2'
      refine main true rfl ?_
      rw [dec_str, str_beq]
      rfl
    | _ => simp [flat] at f2
  | _ => simp [flat] at f1

theorem eq_any (hu : X.A.units + 64 < cLine) (hK : X.K = G.K) {pins : List (Addr × Obj)} {s : Shared} {σ : Sl} {w : Wd} {dx dy : D} {x y : V} {v u : Value} {Q : VK} {b : Bool} (I : Inv X pins σ w.H s) (rx : RelV x v) (ry : RelV y u) (ok : WOk G w)
    (r1 : RepV G w.F w.M dx x) (r2 : RepV G w.F w.M dy y) (e : eqD dx dy = some b) :
    (Q (.bl b) w.H → wpAny (model X.prog X.w) X.A (compareOp .Eq v u) (EP X pins σ Q) X.xe s) ∧ (Q (.bl (!b)) w.H → wpAny (model X.prog X.w) X.A (compareOp .NotEq v u) (EP X pins σ Q) X.xe s) := by
  unfold eqD at e
  split at e
  · rename_i h
    rw [Bool.and_eq_true] at h
    cases e
    exact eq_flat hu hK I rx ry ok r1 r2 h.1 h.2
  · split at e
    · rename_i h
      rw [Bool.and_eq_true] at h
      cases e
      have d1 := dp_of ok.sub h.1 r1
      have d2 := dp_of ok.sub h.2 r2
      have s1 := shaped_of_fine (by omega) h.1
      have s2 := shaped_of_fine (by omega) h.2
      have e := eqv_of h.1 h.2
      rw [← hK] at d1 d2
      exact ⟨fun q => op_eqD hu pins s σ w.H x y v u Q I rx ry ⟨_, _, d1, d2, s1, s2, by rw [e]; exact q⟩, fun q => op_neD hu pins s σ w.H x y v u Q I rx ry ⟨_, _, d1, d2, s1, s2, by rw [e]; exact q⟩⟩
    · cases e

theorem any_toPDs {n m : Nat} {x : D} (hx : fine m x = true) : ∀ {ds : List D}, fines n ds = true → (toPDs ds).any (fun z => PyData.eqv z (toPD x)) = ds.any fun y => pyEq y x
  | [], _ => by simp only [toPDs, List.any_nil]
  | d :: ds, h => by
    simp only [fines, Bool.and_eq_true] at h
    simp only [toPDs, List.any_cons]
    rw [eqv_of h.1 hx, any_toPDs hx h.2]

/-- in, not in -/
theorem in_any (hu : X.A.units + 65 < cLine) (hK : X.K = G.K) {pins : List (Addr × Obj)} {s : Shared} {σ : Sl} {w : Wd} {dx dy : D} {x y : V} {v u : Value} {Q : VK} {b : Bool} (I : Inv X pins σ w.H s) (rx : RelV x v) (ry : RelV y u) (ok : WOk G w)
    (r1 : RepV G w.F w.M dx x) (r2 : RepV G w.F w.M dy y) (e : inD dx dy = some b) :
    (Q (.bl b) w.H → wpAny (model X.prog X.w) X.A (compareOp .In v u) (EP X pins σ Q) X.xe s) ∧ (Q (.bl (!b)) w.H → wpAny (model X.prog X.w) X.A (compareOp .NotIn v u) (EP X pins σ Q) X.xe s) := by
  unfold inD at e
  have seq : ∀ {a : Addr} {vs : List V} {ds : List D}, y = .ref a → (SqL X.K w.H a vs ∨ SqT X.K w.H a vs) → RepL G w.F w.M ds vs → flat dx = true → ds.all flat = true → b = (ds.any fun z => pyEq z dx) →
      (Q (.bl b) w.H → wpAny (model X.prog X.w) X.A (compareOp .In v u) (EP X pins σ Q) X.xe s) ∧ (Q (.bl (!b)) w.H → wpAny (model X.prog X.w) X.A (compareOp .NotIn v u) (EP X pins σ Q) X.xe s) := by
    intro a vs ds ey hq l f1 f2 eb
    obtain ⟨g1, g2⟩ := flats_rep f2 l
    have h1 := (flat_rep f1 r1).1
    have e2 : inV x vs = b := by rw [eb]; exact g2 f1 r1
    exact ⟨fun q => op_in_seq pins s σ w.H x y v u Q I rx ry ⟨a, vs, ey, hq, h1, g1, by simpa [e2] using q⟩, fun q => op_notIn_seq pins s σ w.H x y v u Q I rx ry ⟨a, vs, ey, hq, h1, g1, by simpa [e2] using q⟩⟩
  split at e
  · rename_i ds
    obtain ⟨a, vs, ey, q, l⟩ := rep_lst.mp r2
    unfold memD at e
    split at e
    · rename_i h
      rw [Bool.and_eq_true] at h
      cases e
      exact seq ey (.inl (.of (ok.sub _ _ q))) l h.1 h.2 rfl
    · split at e
      · rename_i h
        rw [Bool.and_eq_true] at h
        cases e
        have d1 := dp_of ok.sub h.1 r1
        have d2 : Dp G.K w.H y (.list (toPDs ds)) := by
          rw [ey]
          exact .lst (.of (ok.sub _ _ q)) (dps_of ok.sub h.2 l)
        have s1 := shaped_of_fine (by omega) h.1
        have s2 := (shapeds_of_fine (by omega) h.2).1
        have e := any_toPDs h.1 h.2
        rw [← hK] at d1 d2
        exact ⟨fun q => op_inD hu pins s σ w.H x y v u Q I rx ry ⟨_, _, d1, d2, s1, s2, by rw [e]; exact q⟩, fun q => op_notInD hu pins s σ w.H x y v u Q I rx ry ⟨_, _, d1, d2, s1, s2, by rw [e]; exact q⟩⟩
      · cases e
  · rename_i ds
    obtain ⟨a, vs, ey, q, l⟩ := rep_tup.mp r2
    unfold memF at e
    split at e
    · rename_i h
      rw [Bool.and_eq_true] at h
      cases e
      exact seq ey (.inr (by rw [hK]; exact ok.sub.sqT q)) l h.1 h.2 rfl
    · cases e
  · rename_i t
    split at e
    · rename_i c
      cases e
      have e1 := rep_str.mp r1
      have e2 := rep_str.mp r2
      have e3 : decide (c ∈ (strV t).cps.toList) = t.contains c := by
        rw [strV_tl]
        simp
      exact ⟨fun q => op_in_sign pins s σ w.H x y v u Q I rx ry ⟨c, strV t, e1, e2, by rw [e3]; exact q⟩, fun q => op_notIn_sign pins s σ w.H x y v u Q I rx ry ⟨c, strV t, e1, e2, by rw [e3]; exact q⟩⟩
    · cases e
  · cases e
end
end RB

set_option Elab.async false
set_option linter.all false
set_option maxRecDepth 100000
set_option maxHeartbeats 4000000
set_option autoImplicit false
namespace RB
open PySem PySem.Spec PyProof.Rows L2
section
variable {X : Cx} {G : Hd}
theorem cmp_ok (hu : X.A.units + 65 < cLine) (hK : X.K = G.K) (o : COp) : OpR X (compareOp (copOf o)) (rC G (cmpD o)) := by
  intro pins s σ H x y v u Q I rx ry q
  obtain ⟨dx, dy, b, w, rfl, ok, r1, r2, e, k⟩ := q
  unfold cmpD at e
  split at e
  · exact (eq_any (by omega) hK I rx ry ok r1 r2 e).1 k
  · obtain ⟨c, e2, rfl⟩ := Option.map_eq_some_iff.mp e
    · skip
      exact (eq_any (by omega) hK I rx ry ok r1 r2 e2).2 k
  · cases e
    rw [rep_int] at r1 r2
    exact op_lt pins s σ w.H x y v u Q I rx ry ⟨_, _, r1, r2, k⟩
  · cases e
    rw [rep_int] at r1 r2
    exact op_le pins s σ w.H x y v u Q I rx ry ⟨_, _, r1, r2, k⟩
  · cases e
    rw [rep_int] at r1 r2
    exact op_gt pins s σ w.H x y v u Q I rx ry ⟨_, _, r1, r2, k⟩
  · cases e
    rw [rep_int] at r1 r2
    exact op_ge pins s σ w.H x y v u Q I rx ry ⟨_, _, r1, r2, k⟩
  · cases e
    rw [rep_str] at r1 r2
    refine op_lt_str pins s σ w.H x y v u Q I rx ry ⟨_, _, r1, r2, ?_⟩
    rw [strV_tl, strV_tl, ← strLt_eq]
    exact k
  · exact (in_any hu hK I rx ry ok r1 r2 e).1 k
  · obtain ⟨c, e2, rfl⟩ := Option.map_eq_some_iff.mp e
    · skip
      exact (in_any hu hK I rx ry ok r1 r2 e2).2 k
  · unfold isD at e
    split at e
    · cases e
      rw [rep_non] at r2
      subst r2
      refine op_isN pins s σ w.H x _ v u Q I rx ry ⟨rfl, ?_⟩
      cases dx with
      | non => rw [rep_non] at r1; subst r1; exact k
      | bl b => rw [rep_bl] at r1; subst r1; exact k
      | int b => rw [rep_int] at r1; subst r1; exact k
      | str b => rw [rep_str] at r1; subst r1; exact k
      | tup b => rw [rep_tup] at r1; obtain ⟨_, _, rfl, _⟩ := r1; exact k
      | lst b => rw [rep_lst] at r1; obtain ⟨_, _, rfl, _⟩ := r1; exact k
      | dic b c => rw [rep_dic] at r1; obtain ⟨_, _, rfl, _⟩ := r1; exact k
      | obj b c => rw [rep_obj] at r1; obtain ⟨_, _, _, _, _, rfl, _⟩ := r1; exact k
      | fn b => simp only [RepV] at r1; obtain ⟨_, _, rfl⟩ := r1; exact k
      | clo b c => rw [rep_clo] at r1; obtain ⟨_, rfl, _⟩ := r1; exact k
      | ref b => rw [rep_ref] at r1; obtain ⟨_, _, rfl⟩ := r1; exact k
      | scr b => rw [rep_scr] at r1; obtain ⟨_, rfl, _⟩ := r1; exact k
    · cases e
      rw [rep_bl] at r1 r2
      exact op_isBl pins s σ w.H x y v u Q I rx ry ⟨_, _, r1, r2, by rw [← Bool.beq_eq_decide_eq]; exact k⟩
    · cases e
  · obtain ⟨c, e2, rfl⟩ := Option.map_eq_some_iff.mp e
    · skip
      unfold isD at e2
      split at e2
      · cases e2
        rw [rep_non] at r2
        subst r2
        refine op_notN pins s σ w.H x _ v u Q I rx ry ⟨rfl, ?_⟩
        cases dx with
        | non => rw [rep_non] at r1; subst r1; exact k
        | bl b => rw [rep_bl] at r1; subst r1; exact k
        | int b => rw [rep_int] at r1; subst r1; exact k
        | str b => rw [rep_str] at r1; subst r1; exact k
        | tup b => rw [rep_tup] at r1; obtain ⟨_, _, rfl, _⟩ := r1; exact k
        | lst b => rw [rep_lst] at r1; obtain ⟨_, _, rfl, _⟩ := r1; exact k
        | dic b c => rw [rep_dic] at r1; obtain ⟨_, _, rfl, _⟩ := r1; exact k
        | obj b c => rw [rep_obj] at r1; obtain ⟨_, _, _, _, _, rfl, _⟩ := r1; exact k
        | fn b => simp only [RepV] at r1; obtain ⟨_, _, rfl⟩ := r1; exact k
        | clo b c => rw [rep_clo] at r1; obtain ⟨_, rfl, _⟩ := r1; exact k
        | ref b => rw [rep_ref] at r1; obtain ⟨_, _, rfl⟩ := r1; exact k
        | scr b => rw [rep_scr] at r1; obtain ⟨_, rfl, _⟩ := r1; exact k
      · cases e2
        rw [rep_bl] at r1 r2
        exact op_notBl pins s σ w.H x y v u Q I rx ry ⟨_, _, r1, r2, by rw [← Bool.beq_eq_decide_eq]; exact k⟩
      · cases e2
  · cases e
end
end RB

set_option Elab.async false
set_option linter.all false
set_option maxRecDepth 100000
set_option maxHeartbeats 4000000
set_option autoImplicit false
/-! What is built in: calls by name. -/
namespace RB
open PySem PySem.Spec PyProof.Rows L2

/-- one value in, by plain data -/
def rB1 (G : Hd) (f : D → Option D) : List V → Hp → VK → Prop := fun xs H Q => ∃ x dx d w, xs = [x] ∧ w.H = H ∧ WOk G w ∧ RepV G w.F w.M dx x ∧ f dx = some d ∧
  ∀ v w', Ext w w' → WOk G w' → w'.S = w.S → RepV G w'.F w'.M d v → Q v w'.H
def rB2 (G : Hd) (f : D → D → Option D) : List V → Hp → VK → Prop := fun xs H Q => ∃ x y dx dy d w, xs = [x, y] ∧ w.H = H ∧ WOk G w ∧ RepV G w.F w.M dx x ∧ RepV G w.F w.M dy y ∧ f dx dy = some d ∧
  ∀ v w', Ext w w' → WOk G w' → w'.S = w.S → RepV G w'.F w'.M d v → Q v w'.H

theorem blsOf_some : ∀ {ds : List D} {bs : List Bool}, blsOf ds = some bs → ds = bs.map .bl
  | [], _, h => by
    simp only [blsOf, Option.some.injEq] at h
    subst h
    rfl
  | .bl b :: r, bs, h => by
    rw [blsOf] at h
    obtain ⟨c, e, rfl⟩ := Option.map_eq_some_iff.mp h
    rw [blsOf_some e]
    rfl
  | .non :: _, _, h => by simp [blsOf] at h
  | .int _ :: _, _, h => by simp [blsOf] at h
  | .str _ :: _, _, h => by simp [blsOf] at h
  | .tup _ :: _, _, h => by simp [blsOf] at h
  | .lst _ :: _, _, h => by simp [blsOf] at h
  | .dic _ _ :: _, _, h => by simp [blsOf] at h
  | .obj _ _ :: _, _, h => by simp [blsOf] at h
  | .fn _ :: _, _, h => by simp [blsOf] at h
  | .clo _ _ :: _, _, h => by simp [blsOf] at h
  | .ref _ :: _, _, h => by simp [blsOf] at h
  | .scr _ :: _, _, h => by simp [blsOf] at h
theorem intsOf_some : ∀ {ds : List D} {bs : List Int}, intsOf ds = some bs → ds = bs.map .int
  | [], _, h => by
    simp only [intsOf, Option.some.injEq] at h
    subst h
    rfl
  | .int b :: r, bs, h => by
    rw [intsOf] at h
    obtain ⟨c, e, rfl⟩ := Option.map_eq_some_iff.mp h
    rw [intsOf_some e]
    rfl
  | .non :: _, _, h => by simp [intsOf] at h
  | .bl _ :: _, _, h => by simp [intsOf] at h
  | .str _ :: _, _, h => by simp [intsOf] at h
  | .tup _ :: _, _, h => by simp [intsOf] at h
  | .lst _ :: _, _, h => by simp [intsOf] at h
  | .dic _ _ :: _, _, h => by simp [intsOf] at h
  | .obj _ _ :: _, _, h => by simp [intsOf] at h
  | .fn _ :: _, _, h => by simp [intsOf] at h
  | .clo _ _ :: _, _, h => by simp [intsOf] at h
  | .ref _ :: _, _, h => by simp [intsOf] at h
  | .scr _ :: _, _, h => by simp [intsOf] at h
theorem strsOf_some : ∀ {ds : List D} {bs : List (List Nat)}, strsOf ds = some bs → ds = bs.map .str
  | [], _, h => by
    simp only [strsOf, Option.some.injEq] at h
    subst h
    rfl
  | .str b :: r, bs, h => by
    rw [strsOf] at h
    obtain ⟨c, e, rfl⟩ := Option.map_eq_some_iff.mp h
    rw [strsOf_some e]
    rfl
  | .non :: _, _, h => by simp [strsOf] at h
  | .bl _ :: _, _, h => by simp [strsOf] at h
  | .int _ :: _, _, h => by simp [strsOf] at h
  | .tup _ :: _, _, h => by simp [strsOf] at h
  | .lst _ :: _, _, h => by simp [strsOf] at h
  | .dic _ _ :: _, _, h => by simp [strsOf] at h
  | .obj _ _ :: _, _, h => by simp [strsOf] at h
  | .fn _ :: _, _, h => by simp [strsOf] at h
  | .clo _ _ :: _, _, h => by simp [strsOf] at h
  | .ref _ :: _, _, h => by simp [strsOf] at h
  | .scr _ :: _, _, h => by simp [strsOf] at h

section
variable {X : Cx} {G : Hd}
theorem len_ok (hK : X.K = G.K) : CallR X (.builtin "len") (rB1 G (bi .len)) := by
  intro pins s σ H xs us Q I r q
  obtain ⟨x, dx, d, w, rfl, rfl, ok, r1, e, k⟩ := q
  have fin : ∀ n : Nat, d = .int n → LenV X.K x w.H n → wpAny (model X.prog X.w) X.A (call (.builtin "len") us) (EP X pins σ Q) X.xe s := fun n ed h =>
    call_len pins s σ w.H [x] us Q I r ⟨x, n, rfl, h, k _ w (Ext.refl w) ok rfl (by rw [ed]; exact rep_int.mpr rfl)⟩
  unfold bi at e
  split at e
  case h_1 =>
    split at e
    · rename_i h
      cases e
      rw [rep_str] at r1
      subst r1
      refine fin _ rfl ⟨?_, (strV_len _).symm⟩
      rw [strV_len]
      exact lim_line h
    · cases e
  case h_2 =>
    cases e
    obtain ⟨a, vs, rfl, q, l⟩ := rep_tup.mp r1
    exact fin _ rfl (.inr ⟨vs, by rw [hK]; exact ok.sub.sqT q, l.length⟩)
  case h_3 =>
    cases e
    obtain ⟨a, vs, rfl, q, l⟩ := rep_lst.mp r1
    exact fin _ rfl (.inl ⟨vs, .of (ok.sub _ _ q), l.length⟩)
  case h_4 =>
    cases e
    obtain ⟨a, rfl, q⟩ := rep_scr.mp r1
    exact fin _ rfl (.inl ⟨_, by rw [hK]; exact ok.sub.sqL q, by simp⟩)
  all_goals first | (cases e; done) | (rename_i hh _ _; cases hh; done) | (contradiction) | skip

theorem all_ok (hc : X.calm = true) (hK : X.K = G.K) : CallR X (.builtin "all") (rB1 G (bi .all)) := by
  intro pins s σ H xs us Q I r q
  obtain ⟨x, dx, d, w, rfl, rfl, ok, r1, e, k⟩ := q
  unfold bi at e
  split at e
  case h_5 =>
    obtain ⟨bs, e', rfl⟩ := Option.map_eq_some_iff.mp e
    obtain ⟨a, vs, rfl, q, l⟩ := rep_lst.mp r1
    rw [blsOf_some e'] at l
    have hv := l.bls
    subst hv
    exact cr_all hc pins s σ w.H _ us Q I r ⟨a, bs, rfl, .of (ok.sub _ _ q), k _ w (Ext.refl w) ok rfl (rep_bl.mpr rfl)⟩
  all_goals first | (cases e; done) | (contradiction) | skip
theorem sum_ok (hc : X.calm = true) (hK : X.K = G.K) : CallR X (.builtin "sum") (rB1 G (bi .sum)) := by
  intro pins s σ H xs us Q I r q
  obtain ⟨x, dx, d, w, rfl, rfl, ok, r1, e, k⟩ := q
  unfold bi at e
  split at e
  case h_6 =>
    obtain ⟨bs, e', rfl⟩ := Option.map_eq_some_iff.mp e
    obtain ⟨a, vs, rfl, q, l⟩ := rep_lst.mp r1
    rw [intsOf_some e'] at l
    have hv := l.ints
    subst hv
    exact cr_sum hc pins s σ w.H _ us Q I r ⟨a, bs, rfl, .of (ok.sub _ _ q), k _ w (Ext.refl w) ok rfl (rep_int.mpr rfl)⟩
  all_goals first | (cases e; done) | (contradiction) | skip
theorem maxOf_mem : ∀ {ns : List Int}, ns ≠ [] → maxOf ns ∈ ns
  | [], h => absurd rfl h
  | [x], _ => by simp [maxOf]
  | x :: y :: r, _ => by
    have ih := maxOf_mem (ns := y :: r) (by simp)
    rw [maxOf]
    case x_2 => exact fun h => by cases h
    rcases Int.le_total x (maxOf (y :: r)) with h | h
    · rw [Int.max_eq_right h]
      exact List.mem_cons_of_mem _ ih
    · rw [Int.max_eq_left h]
      exact List.mem_cons_self
theorem le_maxOf : ∀ {ns : List Int} {y : Int}, y ∈ ns → y ≤ maxOf ns
  | [], _, h => by simp at h
  | [x], y, h => by
    have : y = x := by simpa using h
    rw [maxOf, this]
    exact Int.le_refl _
  | x :: z :: r, y, h => by
    rw [maxOf]
    case x_2 => exact fun h => by cases h
    rcases List.mem_cons.mp h with h | h
    · rw [h]
      exact Int.le_max_left ..
    · exact Int.le_trans (le_maxOf h) (Int.le_max_right ..)
theorem max_ok (hc : X.calm = true) (hK : X.K = G.K) : CallR X (.builtin "max") (rB1 G (bi .max)) := by
  intro pins s σ H xs us Q I r q
  obtain ⟨x, dx, d, w, rfl, rfl, ok, r1, e, k⟩ := q
  unfold bi at e
  split at e
  case h_7 =>
    obtain ⟨bs, e', e2⟩ := Option.bind_eq_some_iff.mp e
    split at e2
    · cases e2
    · rename_i hne
      cases e2
      obtain ⟨a, vs, rfl, q, l⟩ := rep_lst.mp r1
      rw [intsOf_some e'] at l
      have hv := l.ints
      subst hv
      refine cr_max hc pins s σ w.H _ us Q I r ⟨a, bs, rfl, .of (ok.sub _ _ q), List.length_pos_iff.mpr hne, fun m hm hle => k _ w (Ext.refl w) ok rfl (rep_int.mpr ?_)⟩
      have h1 := hle _ (maxOf_mem hne)
      have h2 := le_maxOf hm
      rw [Int.le_antisymm h2 h1]
  all_goals first | (cases e; done) | (contradiction) | skip
theorem intText_str (i : Int) : (Str.ofString (toString i)) = strV (intText i) := by
  apply TL.ext_tl
  rw [TL.tl_ofString]
  simp only [strV, TL.tl_mk, intText, codes]
theorem str_ok : CallR X (.type "str") (rB1 G (bi .str)) := by
  intro pins s σ H xs us Q I r q
  obtain ⟨x, dx, d, w, rfl, rfl, ok, r1, e, k⟩ := q
  unfold bi at e
  split at e
  case h_8 =>
    split at e
    · rename_i i _ h
      cases e
      rw [rep_int] at r1
      subst r1
      refine call_str_int pins s σ w.H _ us Q I r ⟨i, rfl, ?_, k _ w (Ext.refl w) ok rfl (rep_str.mpr ?_)⟩
      · by_cases h0 : i.natAbs = 0
        · rw [h0]
          decide
        · have := (Nat.log2_lt h0).mpr h
          omega
      · rw [intText_str]
    · cases e
  case h_9 =>
    cases e
    rw [rep_str] at r1
    subst r1
    exact SkE.call_str_str pins s σ w.H _ us Q I r ⟨_, rfl, k _ w (Ext.refl w) ok rfl (rep_str.mpr rfl)⟩
  all_goals first | (cases e; done) | (contradiction) | skip
theorem figure_text {t : List Nat} {n : Int} (h : figure t = some n) : PySem.intText? (strV t) = some n ∧ t.length = 1 := by
  unfold figure at h
  split at h
  · split at h
    · rename_i c hc
      cases h
      refine ⟨?_, rfl⟩
      have : c = 48 ∨ c = 49 ∨ c = 50 ∨ c = 51 ∨ c = 52 ∨ c = 53 ∨ c = 54 ∨ c = 55 ∨ c = 56 ∨ c = 57 := by omega
      rcases this with rfl | rfl | rfl | rfl | rfl | rfl | rfl | rfl | rfl | rfl <;> decide +kernel
    · cases h
  · cases h
theorem int_ok : CallR X (.type "int") (rB1 G (bi .int)) := by
  intro pins s σ H xs us Q I r q
  obtain ⟨x, dx, d, w, rfl, rfl, ok, r1, e, k⟩ := q
  unfold bi at e
  split at e
  case h_10 =>
    cases e
    rw [rep_int] at r1
    subst r1
    exact call_int1 pins s σ w.H _ us Q I r (.inl ⟨_, rfl, k _ w (Ext.refl w) ok rfl (rep_int.mpr rfl)⟩)
  case h_11 =>
    obtain ⟨n, e', rfl⟩ := Option.map_eq_some_iff.mp e
    rw [rep_str] at r1
    subst r1
    obtain ⟨h1, h2⟩ := figure_text e'
    refine call_int_str pins s σ w.H _ us Q I r ⟨_, n, rfl, h1, ?_, k _ w (Ext.refl w) ok rfl (rep_int.mpr rfl)⟩
    rw [strV_len, h2]
    decide
  all_goals first | (cases e; done) | (contradiction) | skip
theorem tuple_ok (hK : X.K = G.K) : CallR X (.type "tuple") (rB1 G (bi .tuple)) := by
  intro pins s σ H xs us Q I r q
  obtain ⟨x, dx, d, w, rfl, rfl, ok, r1, e, k⟩ := q
  unfold bi at e
  split at e
  case h_12 =>
    cases e
    obtain ⟨a, vs, rfl, q, l⟩ := rep_tup.mp r1
    exact call_tuple_of pins s σ w.H _ us Q I r ⟨a, vs, rfl, .inr ⟨by rw [hK]; exact ok.sub.sqT q, k _ w (Ext.refl w) ok rfl r1⟩⟩
  case h_13 =>
    cases e
    obtain ⟨a, vs, rfl, q, l⟩ := rep_lst.mp r1
    exact call_tuple_of pins s σ w.H _ us Q I r ⟨a, vs, rfl, .inl ⟨.of (ok.sub _ _ q), fun p n => k _ (w.new p (.tup vs)) (Wd.new_ext ok.sub n) (ok.new n (fun ps z => by cases z)) rfl (rep_newT ok n l)⟩⟩
  all_goals first | (cases e; done) | (contradiction) | skip
theorem list_ok (hK : X.K = G.K) : CallR X (.type "list") (rB1 G (bi .list)) := by
  intro pins s σ H xs us Q I r q
  obtain ⟨x, dx, d, w, rfl, rfl, ok, r1, e, k⟩ := q
  revert e
  cases dx <;> intro e <;> dsimp only [bi] at e
  case lst =>
    cases e
    obtain ⟨a, vs, rfl, q, l⟩ := rep_lst.mp r1
    exact call_list_of pins s σ w.H _ us Q I r ⟨a, vs, rfl, .inl (.of (ok.sub _ _ q)), fun p n => k _ (w.new p (.lst vs)) (Wd.new_ext ok.sub n) (ok.new n (fun ps z => by cases z)) rfl (rep_newL ok n l)⟩
  case tup =>
    cases e
    obtain ⟨a, vs, rfl, q, l⟩ := rep_tup.mp r1
    exact call_list_of pins s σ w.H _ us Q I r ⟨a, vs, rfl, .inr (by rw [hK]; exact ok.sub.sqT q), fun p n => k _ (w.new p (.lst vs)) (Wd.new_ext ok.sub n) (ok.new n (fun ps z => by cases z)) rfl (rep_newL ok n l)⟩
  all_goals first | (cases e; done) | (contradiction) | skip
theorem min2_ok (hc : X.calm = true) : CallR X (.builtin "min") (rB2 G (bi2 .min)) := by
  intro pins s σ H xs us Q I r q
  obtain ⟨x, y, dx, dy, d, w, rfl, rfl, ok, r1, r2, e, k⟩ := q
  unfold bi2 at e
  split at e
  case h_1 =>
    cases e
    rw [rep_int] at r1 r2
    subst r1
    subst r2
    exact call_min2 hc pins s σ w.H _ us Q I r ⟨_, _, rfl, k _ w (Ext.refl w) ok rfl (rep_int.mpr rfl)⟩
  all_goals first | (cases e; done) | (contradiction) | skip
theorem max2_ok (hc : X.calm = true) : CallR X (.builtin "max") (rB2 G (bi2 .max)) := by
  intro pins s σ H xs us Q I r q
  obtain ⟨x, y, dx, dy, d, w, rfl, rfl, ok, r1, r2, e, k⟩ := q
  unfold bi2 at e
  split at e
  case h_2 =>
    cases e
    rw [rep_int] at r1 r2
    subst r1
    subst r2
    exact call_max2 hc pins s σ w.H _ us Q I r ⟨_, _, rfl, k _ w (Ext.refl w) ok rfl (rep_int.mpr rfl)⟩
  all_goals first | (cases e; done) | (contradiction) | skip
end
end RB

set_option Elab.async false
set_option linter.all false
set_option maxRecDepth 100000
set_option maxHeartbeats 4000000
set_option autoImplicit false
/-! Methods of built-in types, subscripts, slices. -/
namespace RB
open PySem PySem.Spec PyProof.Rows L2

def rM1 (G : Hd) (f : D → D → Option D) : V → List V → Hp → VK → Prop := fun x ys H Q => ∃ y dx dy d w, ys = [y] ∧ w.H = H ∧ WOk G w ∧ RepV G w.F w.M dx x ∧ RepV G w.F w.M dy y ∧ f dx dy = some d ∧
  ∀ v w', Ext w w' → WOk G w' → w'.S = w.S → RepV G w'.F w'.M d v → Q v w'.H

theorem joinL_eq (z : List Nat) : ∀ ss : List (List Nat), TL.joinL z ss = joinS z ss
  | [] => rfl
  | [_] => rfl
  | x :: y :: r => by
    rw [joinS, ← joinL_eq z (y :: r)]
    rfl
theorem join_str (z : List Nat) (ss : List (List Nat)) : Txt.join (strV z) (ss.map strV) = strV (joinS z ss) := by
  rw [TL.join_eq]
  apply TL.ext_tl
  rw [TL.tl_join, List.map_map]
  have : (ss.map ((fun y => TL.tl y) ∘ strV)) = ss := by
    conv => rhs; rw [← List.map_id ss]
    exact List.map_congr_left fun x _ => strV_tl x
  rw [this, joinL_eq]
  simp only [strV, TL.tl_mk]

section
variable {X : Cx} {G : Hd}
theorem join_ok (hK : X.K = G.K) : MtR X "str.join" (rM1 G (bi2 .join)) := by
  intro pins s σ H x xs v us Q I rx rs q
  obtain ⟨y, dx, dy, d, w, rfl, rfl, ok, r1, r2, e, k⟩ := q
  cases dx <;> cases dy <;> dsimp only [bi2] at e <;> try (cases e; done)
  rename_i z ds
  obtain ⟨ss, e', e2⟩ := Option.bind_eq_some_iff.mp e
  split at e2
  · rename_i h
    cases e2
    rw [rep_str] at r1
    subst r1
    obtain ⟨a, vs, rfl, q, l⟩ := rep_lst.mp r2
    rw [strsOf_some e'] at l
    have hv := l.strs
    subst hv
    refine mt_join pins s σ w.H _ _ v us Q I rx rs ⟨strV z, a, ss.map strV, rfl, rfl, .inl (.of (ok.sub _ _ q)), ?_, ?_⟩
    · rw [List.map_map, List.length_map, strV_len]
      have e3 : (ss.map ((fun z : Str => z.length) ∘ strV)) = ss.map List.length := List.map_congr_left fun x _ => strV_len x
      rw [e3]
      have := lim_line h
      rw [sizeLine_eq] at this
      exact this
    · rw [join_str]
      exact k _ w (Ext.refl w) ok rfl (rep_str.mpr rfl)
  · cases e2
theorem pyEq_place {G : Hd} {F : Hp} {M : List Addr} {y : V} {dy : D} (fy : flat dy = true) (ry : RepV G F M dy y) : ∀ {ds : List D} {vs : List V} {j : Nat}, ds.all flat = true → RepL G F M ds vs → placeD dy ds = some j →
    ∃ z, vs[j]? = some z ∧ eqV z y = true ∧ ∀ (m : Nat) (z' : V), m < j → vs[m]? = some z' → eqV z' y = false
  | [], vs, j, _, _, h => by simp [placeD] at h
  | d :: ds, vs, j, f, l, h => by
    simp only [RepL] at l
    obtain ⟨v, t, rfl, q, l⟩ := l
    rw [List.all_cons, Bool.and_eq_true] at f
    have e0 := (flat_rep f.1 q).2 fy ry
    unfold placeD at h
    rw [List.findIdx?_cons] at h
    by_cases hd : pyEq d dy = true
    · rw [if_pos hd] at h
      cases h
      exact ⟨v, rfl, by rw [e0]; exact hd, fun m z' hm => absurd hm (Nat.not_lt_zero m)⟩
    · rw [if_neg hd] at h
      obtain ⟨j', h', rfl⟩ := Option.map_eq_some_iff.mp h
      obtain ⟨z, h1, h2, h3⟩ := pyEq_place fy ry f.2 l h'
      refine ⟨z, by simpa using h1, h2, fun m z' hm e => ?_⟩
      cases m with
      | zero =>
        have : v = z' := by simpa using e
        rw [← this, e0]
        exact Bool.eq_false_iff.mpr hd
      | succ m => exact h3 m z' (by omega) (by simpa using e)
theorem index_ok (hK : X.K = G.K) : MtR X "list.index" (rM1 G fun x y => match x with | .lst xs => bi2 .index (.lst xs) y | _ => none) := by
  intro pins s σ H x xs v us Q I rx rs q
  obtain ⟨y, dx, dy, d, w, rfl, rfl, ok, r1, r2, e, k⟩ := q
  cases dx with
  | lst ds =>
    have e : bi2 .index (.lst ds) dy = some d := e
    have e1 : (if flat dy && ds.all flat then (placeD dy ds).map fun (j : Nat) => D.int (j : Int) else none) = some d := by
      cases dy <;> simpa only [bi2] using e
    split at e1
    · rename_i h
      rw [Bool.and_eq_true] at h
      obtain ⟨j, e2, rfl⟩ := Option.map_eq_some_iff.mp e1
      obtain ⟨a, vs, rfl, q, l⟩ := rep_lst.mp r1
      obtain ⟨z, h1, h2, h3⟩ := pyEq_place h.1 r2 h.2 l e2
      exact mt_index pins s σ w.H _ _ v us Q I rx rs ⟨a, vs, y, j, z, rfl, rfl, .of (ok.sub _ _ q), (flat_rep h.1 r2).1, (flats_rep h.2 l).1, h1, h2, h3, k _ w (Ext.refl w) ok rfl (rep_int.mpr rfl)⟩
    · cases e1
  | _ => cases e

/-! ### subscripts -/
theorem ixOf_eq (n : Nat) (i : Int) : ixOf n i = ixN n i := rfl
theorem at_map {α β : Type} (f : α → β) (xs : List α) (i : Int) : at? (xs.map f) i = (at? xs i).map f := by
  unfold at?
  rw [List.length_map]
  cases ixOf xs.length i with
  | none => rfl
  | some j => simp
theorem at_rep {G : Hd} {F : Hp} {M : List Addr} {ds : List D} {vs : List V} {i : Int} {d : D} (l : RepL G F M ds vs) (h : at? ds i = some d) : ∃ v, atI vs i = some v ∧ RepV G F M d v := by
  unfold at? at h
  obtain ⟨j, e1, e2⟩ := Option.bind_eq_some_iff.mp h
  obtain ⟨v, e3, r⟩ := l.get e2
  refine ⟨v, ?_, r⟩
  unfold atI
  rw [← l.length, ← ixOf_eq, e1]
  exact e3
/-- a list of the store, read -/
theorem st_at {w : Wd} (ok : WOk G w) {n : Nat} {a : Addr} {ds : List D} (h1 : w.M[n]? = some a) (h2 : w.S[n]? = some (.lst ds)) : ∃ vs, w.H a = some (.lst vs) ∧ RepL G w.F w.M ds vs := (ok.st n a _ h1 h2).2
theorem idx_ok (hK : X.K = G.K) : IxR X (fun x y H Q => ∃ dx dy d w, w.H = H ∧ WOk G w ∧ RepV G w.F w.M dx x ∧ RepV G w.F w.M dy y ∧ idxS w.S dx dy = some d ∧
    ∀ v w', Ext w w' → WOk G w' → w'.S = w.S → RepV G w'.F w'.M d v → Q v w'.H) := by
  intro value slice pins s σ H x y v u Q I rx ry q hp
  obtain ⟨dx, dy, d, w, rfl, ok, r1, r2, e, k⟩ := q
  have list : ∀ {a : Addr} {vs : List V} {ds : List D}, x = .ref a → SqL X.K w.H a vs → RepL G w.F w.M ds vs → idxD (.lst ds) dy = some d → wpAny (model X.prog X.w) X.A (subscriptTail value slice v u) (EP X pins σ Q) X.xe s := by
    intro a vs ds ex hq l e
    cases dy <;> dsimp only [idxD] at e <;> try (cases e; done)
    rw [rep_int] at r2
    obtain ⟨z, h1, h2⟩ := at_rep l e
    exact ix_list value slice pins s σ w.H x y v u Q I rx ry ⟨a, vs, _, z, ex, r2, hq, h1, k _ w (Ext.refl w) ok rfl h2⟩ hp
  cases dx with
  | ref n =>
    obtain ⟨a, h1, rfl⟩ := rep_ref.mp r1
    unfold idxS at e
    dsimp only at e
    split at e
    · rename_i ds h2
      obtain ⟨vs, h3, l⟩ := st_at ok h1 h2
      exact list rfl (.of h3) l e
    · cases e
  | lst ds =>
    obtain ⟨a, vs, rfl, q, l⟩ := rep_lst.mp r1
    exact list rfl (.of (ok.sub _ _ q)) l e
  | tup ds =>
    obtain ⟨a, vs, rfl, q, l⟩ := rep_tup.mp r1
    cases dy <;> dsimp only [idxS, idxD] at e <;> try (cases e; done)
    rw [rep_int] at r2
    obtain ⟨z, h1, h2⟩ := at_rep l e
    exact ix_tup value slice pins s σ w.H _ y v u Q I rx ry ⟨a, vs, _, z, rfl, r2, by rw [hK]; exact ok.sub.sqT q, h1, k _ w (Ext.refl w) ok rfl h2⟩ hp
  | scr ns =>
    obtain ⟨a, rfl, q⟩ := rep_scr.mp r1
    cases dy <;> dsimp only [idxS, idxD] at e <;> try (cases e; done)
    rename_i i
    rw [rep_int] at r2
    obtain ⟨z, h1, rfl⟩ := Option.map_eq_some_iff.mp e
    have h2 : atI (ns.map V.int) i = some (V.int z) := by
      show at? (ns.map V.int) i = _
      rw [at_map, h1]
      rfl
    exact ix_list value slice pins s σ w.H _ y v u Q I rx ry ⟨a, _, _, _, rfl, r2, by rw [hK]; exact ok.sub.sqL q, h2, k _ w (Ext.refl w) ok rfl (rep_int.mpr rfl)⟩ hp
  | str t =>
    rw [rep_str] at r1
    cases dy <;> dsimp only [idxS, idxD] at e <;> try (cases e; done)
    rw [rep_int] at r2
    split at e
    · rename_i h
      obtain ⟨c, h1, rfl⟩ := Option.map_eq_some_iff.mp e
      refine ix_str value slice pins s σ w.H x y v u Q I rx ry ⟨strV t, _, c, r1, r2, ?_, ?_, k _ w (Ext.refl w) ok rfl (rep_str.mpr rfl)⟩ hp
      · rw [strV_len]
        exact lim_line h
      · rw [strV_tl]
        exact h1
    · cases e
  | _ => cases dy <;> dsimp only [idxS, idxD] at e <;> cases e

/-! ### slices -/
theorem cut_rep {G : Hd} {F : Hp} {M : List Addr} {ds : List D} {vs : List V} {lo hi : Option Int} (l : RepL G F M ds vs) : RepL G F M (cut ds lo hi) (cutV vs lo hi) := by
  have := (l.drop (HT.sIx vs.length 0 lo)).take (HT.sIx vs.length vs.length hi - HT.sIx vs.length 0 lo)
  unfold cut cutV
  rw [l.length]
  exact this
theorem cut_whole {α : Type} {xs : List α} {lo hi : Option Int} (h : HT.sIx xs.length 0 lo = 0 ∧ HT.sIx xs.length xs.length hi = xs.length) : cut xs lo hi = xs := by
  have h1 : cutIx xs.length 0 lo = 0 := h.1
  have h2 : cutIx xs.length xs.length hi = xs.length := h.2
  unfold cut
  rw [h1, h2]
  simp
theorem slc_ok (hK : X.K = G.K) : SlR X (fun x lo hi H Q => ∃ dx d w, w.H = H ∧ WOk G w ∧ RepV G w.F w.M dx x ∧ slcD dx lo hi = some d ∧ ∀ v w', Ext w w' → WOk G w' → w'.S = w.S → RepV G w'.F w'.M d v → Q v w'.H) := by
  intro pins s σ H x v vl vu lo hi sl Q I rx hs pl pu q
  obtain ⟨dx, d, w, rfl, ok, r1, e, k⟩ := q
  cases dx with
  | tup ds =>
    obtain ⟨a, vs, rfl, q, l⟩ := rep_tup.mp r1
    cases e
    refine sl_tupA pins s σ w.H _ v vl vu lo hi sl Q I rx hs pl pu ⟨a, vs, rfl, by rw [hK]; exact ok.sub.sqT q, fun h => ?_, fun h p n => ?_⟩
    · rw [← l.length] at h
      rw [cut_whole h] at k
      exact k _ w (Ext.refl w) ok rfl r1
    · exact k _ (w.new p (.tup (cutV vs lo hi))) (Wd.new_ext ok.sub n) (ok.new n (fun ps z => by cases z)) rfl (rep_newT ok n (cut_rep l))
  | lst ds =>
    obtain ⟨a, vs, rfl, q, l⟩ := rep_lst.mp r1
    cases e
    exact sl_list pins s σ w.H _ v vl vu lo hi sl Q I rx hs pl pu ⟨a, vs, rfl, .of (ok.sub _ _ q), fun p n => k _ (w.new p (.lst (cutV vs lo hi))) (Wd.new_ext ok.sub n) (ok.new n (fun ps z => by cases z)) rfl (rep_newL ok n (cut_rep l))⟩
  | str t =>
    rw [rep_str] at r1
    subst r1
    dsimp only [slcD] at e
    split at e
    · rename_i h
      cases e
      refine sl_str pins s σ w.H _ v vl vu lo hi sl Q I rx hs pl pu ⟨_, rfl, ?_, ?_⟩
      · rw [strV_len]
        exact lim_line h
      · refine k _ w (Ext.refl w) ok rfl (rep_str.mpr ?_)
        unfold cutS strV
        simp only [strV_len]
        rfl
    · cases e
  | _ => cases e
end
end RB

set_option Elab.async false
set_option linter.all false
set_option maxRecDepth 100000
set_option maxHeartbeats 4000000
set_option autoImplicit false
/-! Expressions: each form's reading is its plain meaning. -/
namespace RB
open PySem PySem.Spec PyProof.Rows L2

/-- what the context of a body or of a block bears -/
structure XOk (Z : Fm) (X : Cx) : Prop where
  hK : X.K = Z.G.K
  calm : X.calm = true
  units : X.A.units + 65 < cLine
  nd : X.N.Nodup

section
variable {Z : Fm} {σ : Sl} {H : Hp} {Q Q' : VK}
theorem tG.imp {g : Env → Store → R D} (h : tG Z g σ H Q) (k : ∀ v H, Q v H → Q' v H) : tG Z g σ H Q' := by
  obtain ⟨ρ, w, e, ok, r, p⟩ := h
  exact ⟨ρ, w, e, ok, r, p.imp fun _ _ _ _ q v rv => k _ _ (q v rv)⟩
/-- a part of an expression has come -/
theorem run1 {ga : Env → Store → R D} {k : Env → D → Store → R D} (h : tG Z (fun ρ S => (ga ρ S).bind (k ρ)) σ H Q) :
    tG Z ga σ H fun v H1 => ∃ ρ x w, w.H = H1 ∧ WOk Z.G w ∧ EnvR Z w σ ρ ∧ RepV Z.G w.F w.M x v ∧ Post Z σ w (k ρ x w.S) fun d w' => ∀ v, RepV Z.G w'.F w'.M d v → Q v w'.H := by
  obtain ⟨ρ, w, rfl, ok, r, p⟩ := h
  exact ⟨ρ, w, rfl, ok, r, p.bind.imp fun x w1 e ok1 p1 v rv => ⟨ρ, x, w1, rfl, ok1, r.ext e, rv, p1⟩⟩
theorem run2 {ga gb : Env → Store → R D} {k : D → D → Store → R D} (h : tG Z (fun ρ S => (ga ρ S).bind fun x S1 => (gb ρ S1).bind fun y S2 => k x y S2) σ H Q) :
    tG Z ga σ H fun v H1 => tG Z gb σ H1 fun u H2 => ∃ ρ x y w, w.H = H2 ∧ WOk Z.G w ∧ EnvR Z w σ ρ ∧ RepV Z.G w.F w.M x v ∧ RepV Z.G w.F w.M y u ∧ Post Z σ w (k x y w.S) fun d w' => ∀ v, RepV Z.G w'.F w'.M d v → Q v w'.H :=
  (run1 (k := fun ρ x S1 => (gb ρ S1).bind fun y S2 => k x y S2) h).imp fun v H1 ⟨ρ, x, w, e, ok, r, rx, p⟩ =>
    ⟨ρ, w, e, ok, r, p.bind.imp fun y w2 e2 ok2 p2 u ru => ⟨ρ, x, y, w2, rfl, ok2, r.ext e2, rx.ext e2, ru, p2⟩⟩
/-- .. for a test -/
theorem run1T {ga : Env → Store → R D} {k : Env → Bool → Store → R D} {QT : Bool → Hp → Prop} (h : tGT Z (fun ρ S => (ga ρ S).bind fun x S1 => (toBl x S1).bind fun b S2 => k ρ b S2) σ H QT) :
    tGT Z ga σ H fun b H1 => ∃ ρ w, w.H = H1 ∧ WOk Z.G w ∧ EnvR Z w σ ρ ∧ Post Z σ w ((k ρ b w.S).bind toBl) fun b' w' => QT b' w'.H := by
  obtain ⟨ρ, w, rfl, ok, r, p⟩ := h
  dsimp only at p
  refine ⟨ρ, w, rfl, ok, r, ?_⟩
  cases e : ga ρ w.S with
  | no => rw [e] at p; exact p
  | ex c vs S' => rw [e] at p; exact p
  | ok x S1 =>
    rw [e] at p
    rw [bind_ok] at p ⊢
    cases x with
    | bl b =>
      intro w1 e1 ok1 s1
      refine ⟨ρ, w1, rfl, ok1, r.ext e1, ?_⟩
      subst s1
      exact Post.ext p e1
    | _ => exact p
theorem run1V {ga : Env → Store → R D} {k : Env → Bool → Store → R D} (h : tG Z (fun ρ S => (ga ρ S).bind fun x S1 => (toBl x S1).bind fun b S2 => k ρ b S2) σ H Q) :
    tGT Z ga σ H fun b H1 => ∃ ρ w, w.H = H1 ∧ WOk Z.G w ∧ EnvR Z w σ ρ ∧ Post Z σ w (k ρ b w.S) fun d w' => ∀ v, RepV Z.G w'.F w'.M d v → Q v w'.H := by
  obtain ⟨ρ, w, rfl, ok, r, p⟩ := h
  dsimp only at p
  refine ⟨ρ, w, rfl, ok, r, ?_⟩
  cases e : ga ρ w.S with
  | no => rw [e] at p; exact p
  | ex c vs S' => rw [e] at p; exact p
  | ok x S1 =>
    rw [e] at p
    rw [bind_ok] at p ⊢
    cases x with
    | bl b =>
      intro w1 e1 ok1 s1
      refine ⟨ρ, w1, rfl, ok1, r.ext e1, ?_⟩
      subst s1
      exact Post.ext p e1
    | _ => exact p
theorem tGT.imp {g : Env → Store → R D} {QT QT' : Bool → Hp → Prop} (h : tGT Z g σ H QT) (k : ∀ v H, QT v H → QT' v H) : tGT Z g σ H QT' := by
  obtain ⟨ρ, w, e, ok, r, p⟩ := h
  exact ⟨ρ, w, e, ok, r, p.imp fun _ _ _ _ q => k _ _ q⟩
/-- a test by its value -/
theorem tGT_tB {g : Env → Store → R D} {QT : Bool → Hp → Prop} (h : tGT Z g σ H QT) : tB (tG Z g) σ H QT := by
  obtain ⟨ρ, w, rfl, ok, r, p⟩ := h
  refine ⟨ρ, w, rfl, ok, r, p.bind.imp fun x w1 e1 ok1 p1 v rv => ?_⟩
  cases x with
  | bl b =>
    rw [rep_bl] at rv
    exact ⟨b, rv, p1 w1 (Ext.refl w1) ok1 rfl⟩
  | _ => exact p1.elim
theorem tGA.imp {g : Env → Store → R (List D)} {QA QA' : List V → Hp → Prop} (h : tGA Z g σ H QA) (k : ∀ v H, QA v H → QA' v H) : tGA Z g σ H QA' := by
  obtain ⟨ρ, w, e, ok, r, p⟩ := h
  exact ⟨ρ, w, e, ok, r, p.imp fun _ _ _ _ q v rv => k _ _ (q v rv)⟩
theorem runA {ga : Env → Store → R (List D)} {k : Env → List D → Store → R D} (h : tG Z (fun ρ S => (ga ρ S).bind (k ρ)) σ H Q) :
    tGA Z ga σ H fun vs H1 => ∃ ρ ds w, w.H = H1 ∧ WOk Z.G w ∧ EnvR Z w σ ρ ∧ RepL Z.G w.F w.M ds vs ∧ Post Z σ w (k ρ ds w.S) fun d w' => ∀ v, RepV Z.G w'.F w'.M d v → Q v w'.H := by
  obtain ⟨ρ, w, rfl, ok, r, p⟩ := h
  exact ⟨ρ, w, rfl, ok, r, p.bind.imp fun x w1 e ok1 p1 v rv => ⟨ρ, x, w1, rfl, ok1, r.ext e, rv, p1⟩⟩
end

/-! ### the forms -/
section
variable {Z : Fm} {X : Cx} {a b c : Expr} {ga gb gc : Env → Store → R D} {pos : Pos}
theorem g_var {i : Nat} {x : Str} (ok : XOk Z X) (hi : i ∉ Z.O) (hN : X.N[i]? = some x) (hv : Vis X.env.scope x) (hd : (x == ("__debug__" : Str)) = false) (hcd : (x == ("__classdict__" : Str)) = false) :
    PE X (.Name x pos) (tG Z fun ρ S => .of (getV ρ i) S) := by
  refine PE.imp (pe_var hN hv hd hcd) fun σ H Q h => ?_
  obtain ⟨ρ, w, rfl, wok, r, p⟩ := h
  obtain ⟨d, e, k⟩ := p.of wok
  obtain ⟨v, e1, _, q⟩ := r.val i d e
  exact ⟨v, e1, k w (Ext.refl w) wok rfl v (q hi)⟩
theorem g_cst {d : D} {v : V} {e : Expr} (h : PE X e (tC v)) (hr : ∀ F M, RepV Z.G F M d v) (hu : ∀ F M u, RepV Z.G F M d u → u = v) : PE X e (tG Z fun _ S => .ok d S) := by
  refine PE.imp h fun σ H Q h => ?_
  obtain ⟨ρ, w, rfl, wok, r, p⟩ := h
  exact p w (Ext.refl w) wok rfl v (hr _ _)
theorem g_glb {i : Nat} {d : D} {v : V} {B : Base} {e : Expr} (h : PE X e (tC v)) (hg : B.glb i = some d) (hr : ∀ F M, RepV Z.G F M d v) : PE X e (tG Z fun _ S => .of (B.glb i) S) := by
  refine PE.imp h fun σ H Q h => ?_
  obtain ⟨ρ, w, rfl, wok, r, p⟩ := h
  rw [hg] at p
  exact p w (Ext.refl w) wok rfl v (hr _ _)
theorem g_bin (ok : XOk Z X) {o : BOp} (ha : PE X a (tG Z ga)) (hb : PE X b (tG Z gb)) :
    PE X (.BinOp a (opOf o) b pos) (tG Z fun ρ S => (ga ρ S).bind fun x S1 => (gb ρ S1).bind fun y S2 => .of (bin o x y) S2) := by
  refine PE.imp (pe_op (bin_ok (G := Z.G) ok.hK o) ha hb) fun σ H Q h => ?_
  refine (run2 h).imp fun v H1 h => h.imp fun u H2 ⟨ρ, x, y, w, e, wok, r, rx, ry, p⟩ => ?_
  obtain ⟨d, e1, k⟩ := p.of wok
  exact ⟨x, y, d, w, e, wok, rx, ry, e1, fun v w' e2 ok2 es rv => k w' e2 ok2 es v rv⟩
theorem g_cmp (ok : XOk Z X) {o : COp} (ha : PE X a (tG Z ga)) (hb : PE X b (tG Z gb)) (hm : behindInMarks (copOf o) b = false) :
    PE X (.Compare a [copOf o] [b] pos) (tG Z fun ρ S => (ga ρ S).bind fun x S1 => (gb ρ S1).bind fun y S2 => .of ((cmpD o x y).map .bl) S2) := by
  refine PE.imp (pe_cmpR (cmp_ok (G := Z.G) ok.units ok.hK o) ha hb hm) fun σ H Q h => ?_
  refine (run2 h).imp fun v H1 h => h.imp fun u H2 ⟨ρ, x, y, w, e, wok, r, rx, ry, p⟩ => ?_
  obtain ⟨d, e1, k⟩ := p.of wok
  obtain ⟨t, e2, rfl⟩ := Option.map_eq_some_iff.mp e1
  refine ⟨x, y, t, w, e, wok, rx, ry, e2, ?_⟩
  rw [← e]
  exact k w (Ext.refl w) wok rfl _ (rep_bl.mpr rfl)
theorem g_cmpT (ok : XOk Z X) {o : COp} (ha : PE X a (tG Z ga)) (hb : PE X b (tG Z gb)) (hm : behindInMarks (copOf o) b = false) :
    PT X (.Compare a [copOf o] [b] pos) (tGT Z fun ρ S => (ga ρ S).bind fun x S1 => (gb ρ S1).bind fun y S2 => .of ((cmpD o x y).map .bl) S2) := by
  refine PT.imp (pt_cmpR (cmp_ok (G := Z.G) ok.units ok.hK o) ha hb hm) fun σ H QT h => ?_
  have h' := tGT_tB h
  refine (run2 h').imp fun v H1 h => h.imp fun u H2 ⟨ρ, x, y, w, e, wok, r, rx, ry, p⟩ => ?_
  obtain ⟨d, e1, k⟩ := p.of wok
  obtain ⟨t, e2, rfl⟩ := Option.map_eq_some_iff.mp e1
  refine ⟨x, y, t, w, e, wok, rx, ry, e2, ?_⟩
  rw [← e]
  exact k w (Ext.refl w) wok rfl _ (rep_bl.mpr rfl)
theorem chn_post {o p : COp} {σ : Sl} {H : Hp} {Q : VK} (h : tG Z (fun ρ S => (ga ρ S).bind fun x S1 => (gb ρ S1).bind fun y S2 => match cmpD o x y with
      | none => .no
      | some false => .ok (.bl false) S2
      | some true => (gc ρ S2).bind fun z S3 => .of ((cmpD p y z).map .bl) S3) σ H Q) : tChain (rC Z.G (cmpD o)) (rC Z.G (cmpD p)) (tG Z ga) (tG Z gb) (tG Z gc) σ H Q := by
  have h1 := run1 (k := fun ρ x S1 => (gb ρ S1).bind fun y S2 => match cmpD o x y with
      | none => .no
      | some false => .ok (.bl false) S2
      | some true => (gc ρ S2).bind fun z S3 => .of ((cmpD p y z).map .bl) S3) h
  refine h1.imp fun v H1 ⟨ρ, x, w, e, ok1, r, rx, q⟩ => ?_
  refine ⟨ρ, w, e, ok1, r, q.bind.imp fun y w2 e2 ok2 p2 u ru => ?_⟩
  cases ec : cmpD o x y with
  | none => rw [ec] at p2; exact p2.elim
  | some t =>
    rw [ec] at p2
    refine ⟨x, y, t, w2, rfl, ok2, rx.ext e2, ru, ec, t, rfl, ?_⟩
    cases t with
    | false =>
      rw [if_neg Bool.false_ne_true]
      exact p2 w2 (Ext.refl w2) ok2 rfl _ (rep_bl.mpr rfl)
    | true =>
      rw [if_pos rfl]
      refine ⟨ρ, w2, rfl, ok2, r.ext e2, p2.bind.imp fun z w3 e3 ok3 p3 u' ru' => ?_⟩
      obtain ⟨d, e1, k⟩ := p3.of ok3
      obtain ⟨t, e4, rfl⟩ := Option.map_eq_some_iff.mp e1
      exact ⟨y, z, t, w3, rfl, ok3, ru.ext e3, ru', e4, k w3 (Ext.refl w3) ok3 rfl _ (rep_bl.mpr rfl)⟩
theorem g_chn (ok : XOk Z X) {o p : COp} (ha : PE X a (tG Z ga)) (hb : PE X b (tG Z gb)) (hc : PE X c (tG Z gc)) (hm : lastMarks [copOf o, copOf p] [b, c] = false) :
    PE X (.Compare a [copOf o, copOf p] [b, c] pos) (tG Z fun ρ S => (ga ρ S).bind fun x S1 => (gb ρ S1).bind fun y S2 => match cmpD o x y with
      | none => .no
      | some false => .ok (.bl false) S2
      | some true => (gc ρ S2).bind fun z S3 => .of ((cmpD p y z).map .bl) S3) :=
  PE.imp (pe_chain (cmp_ok (G := Z.G) ok.units ok.hK o) (cmp_ok (G := Z.G) ok.units ok.hK p) ha hb hc hm) fun σ H Q h => chn_post h
theorem g_chnT (ok : XOk Z X) {o p : COp} (ha : PE X a (tG Z ga)) (hb : PE X b (tG Z gb)) (hc : PE X c (tG Z gc)) (hm : lastMarks [copOf o, copOf p] [b, c] = false) :
    PT X (.Compare a [copOf o, copOf p] [b, c] pos) (tGT Z fun ρ S => (ga ρ S).bind fun x S1 => (gb ρ S1).bind fun y S2 => match cmpD o x y with
      | none => .no
      | some false => .ok (.bl false) S2
      | some true => (gc ρ S2).bind fun z S3 => .of ((cmpD p y z).map .bl) S3) :=
  PT.imp (pt_chain (cmp_ok (G := Z.G) ok.units ok.hK o) (cmp_ok (G := Z.G) ok.units ok.hK p) ha hb hc hm) fun σ H QT h => chn_post (tGT_tB h)

/-! ### not, and, or, if -/
theorem g_not (ha : PT X a (tGT Z ga)) : PT X (.UnaryOp .Not a pos) (tGT Z fun ρ S => (ga ρ S).bind fun x S1 => (toBl x S1).bind fun b S2 => .ok (.bl (!b)) S2) :=
  PT.imp (pt_not ha) fun σ H Q h => (run1T h).imp fun b H1 ⟨ρ, w, e, ok, r, p⟩ => by
    rw [← e]
    exact p w (Ext.refl w) ok rfl
theorem g_notV (ha : PE X a (tG Z ga)) : PE X (.UnaryOp .Not a pos) (tG Z fun ρ S => (ga ρ S).bind fun x S1 => (toBl x S1).bind fun b S2 => .ok (.bl (!b)) S2) := by
  refine PE.imp (pe_not ha) fun σ H Q h => ?_
  have := tGT_tB (run1V h)
  refine this.imp fun v H1 ⟨b, e, ρ, w, e2, ok, r, p⟩ => ⟨b, e, ?_⟩
  rw [← e2]
  exact p w (Ext.refl w) ok rfl _ (rep_bl.mpr rfl)
theorem g_and {rest : List Expr} (ha : PT X a (tGT Z ga)) (hb : PW X (.BoolOp .And (b :: rest) pos) (tGT Z gb)) :
    PW X (.BoolOp .And (a :: b :: rest) pos) (tGT Z fun ρ S => (ga ρ S).bind fun x S1 => (toBl x S1).bind fun t S2 => if t then gb ρ S2 else .ok (.bl false) S2) := by
  refine ⟨fun wh pins s σ H Q I h => (pw_and ha hb).run wh pins s σ H Q I ((run1T h).imp fun t H1 ⟨ρ, w, e, ok, r, p⟩ => ?_)⟩
  cases t with
  | true =>
    rw [if_pos rfl]
    exact ⟨ρ, w, e, ok, r, by simpa using p⟩
  | false =>
    rw [if_neg Bool.false_ne_true, ← e]
    rw [if_neg Bool.false_ne_true] at p
    exact p w (Ext.refl w) ok rfl
theorem g_or {rest : List Expr} (ha : PT X a (tGT Z ga)) (hb : PW X (.BoolOp .Or (b :: rest) pos) (tGT Z gb)) :
    PW X (.BoolOp .Or (a :: b :: rest) pos) (tGT Z fun ρ S => (ga ρ S).bind fun x S1 => (toBl x S1).bind fun t S2 => if t then .ok (.bl true) S2 else gb ρ S2) := by
  refine ⟨fun wh pins s σ H Q I h => (pw_or ha hb).run wh pins s σ H Q I ((run1T h).imp fun t H1 ⟨ρ, w, e, ok, r, p⟩ => ?_)⟩
  cases t with
  | false =>
    rw [if_neg Bool.false_ne_true]
    exact ⟨ρ, w, e, ok, r, by simpa using p⟩
  | true =>
    rw [if_pos rfl, ← e]
    rw [if_pos rfl] at p
    exact p w (Ext.refl w) ok rfl
theorem g_andV {rest : List Expr} (ha : PE X a (tG Z ga)) (hb : PE X (.BoolOp .And (b :: rest) pos) (tG Z gb)) :
    PE X (.BoolOp .And (a :: b :: rest) pos) (tG Z fun ρ S => (ga ρ S).bind fun x S1 => (toBl x S1).bind fun t S2 => if t then gb ρ S2 else .ok (.bl false) S2) := by
  refine PE.imp (pe_and ha hb) fun σ H Q h => ?_
  refine (tGT_tB (run1V h)).imp fun v H1 ⟨t, e, ρ, w, e2, ok, r, p⟩ => ⟨t, e, ?_⟩
  cases t with
  | true =>
    rw [if_pos rfl]
    exact ⟨ρ, w, e2, ok, r, by simpa using p⟩
  | false =>
    rw [if_neg Bool.false_ne_true, ← e2]
    rw [if_neg Bool.false_ne_true] at p
    exact p w (Ext.refl w) ok rfl _ (rep_bl.mpr rfl)
theorem g_orV {rest : List Expr} (ha : PE X a (tG Z ga)) (hb : PE X (.BoolOp .Or (b :: rest) pos) (tG Z gb)) :
    PE X (.BoolOp .Or (a :: b :: rest) pos) (tG Z fun ρ S => (ga ρ S).bind fun x S1 => (toBl x S1).bind fun t S2 => if t then .ok (.bl true) S2 else gb ρ S2) := by
  refine PE.imp (pe_or ha hb) fun σ H Q h => ?_
  refine (tGT_tB (run1V h)).imp fun v H1 ⟨t, e, ρ, w, e2, ok, r, p⟩ => ⟨t, e, ?_⟩
  cases t with
  | false =>
    rw [if_neg Bool.false_ne_true]
    exact ⟨ρ, w, e2, ok, r, by simpa using p⟩
  | true =>
    rw [if_pos rfl, ← e2]
    rw [if_pos rfl] at p
    exact p w (Ext.refl w) ok rfl _ (rep_bl.mpr rfl)
theorem g_ife (hc : PT X c (tGT Z gc)) (ha : PE X a (tG Z ga)) (hb : PE X b (tG Z gb)) :
    PE X (.IfExp c a b pos) (tG Z fun ρ S => (gc ρ S).bind fun x S1 => (toBl x S1).bind fun t S2 => if t then ga ρ S2 else gb ρ S2) := by
  refine PE.imp (pe_ifExp hc ha hb) fun σ H Q h => (run1V h).imp fun t H1 ⟨ρ, w, e, ok, r, p⟩ => ?_
  cases t with
  | true =>
    rw [if_pos rfl]
    exact ⟨ρ, w, e, ok, r, by simpa using p⟩
  | false =>
    rw [if_neg Bool.false_ne_true]
    exact ⟨ρ, w, e, ok, r, by simpa using p⟩
/-- an expression that is no and, or, not, if, comparison -/
theorem g_plain (h : PE X a (tG Z ga)) (he : ∀ whole, isTrue a X.env whole = (do let v ← whole; standAt a.pos; holding [v] (truthy v))) : PT X a (tGT Z ga) :=
  PT.imp (pt_val h he) fun σ H Q h => tGT_tB h
theorem g_neg (ha : PE X a (tG Z ga)) : PE X (.UnaryOp .USub a pos) (tG Z fun ρ S => (ga ρ S).bind fun x S1 => match x with
    | .int i => .ok (.int (-i)) S1
    | _ => .no) := by
  refine PE.imp (pe_un un_neg ha) fun σ H Q h => ?_
  refine (run1 (k := fun _ x S1 => match x with
    | .int i => .ok (.int (-i)) S1
    | _ => .no) h).imp fun v H1 ⟨ρ, x, w, e, ok, r, rx, p⟩ => ?_
  cases x with
  | int i =>
    rw [rep_int] at rx
    refine ⟨i, rx, ?_⟩
    rw [← e]
    exact p w (Ext.refl w) ok rfl _ (rep_int.mpr rfl)
  | _ => exact p.elim
end
end RB

set_option Elab.async false
set_option linter.all false
set_option maxRecDepth 100000
set_option maxHeartbeats 4000000
set_option autoImplicit false
namespace RB
open PySem PySem.Spec PyProof.Rows L2

section
variable {Z : Fm} {X : Cx} {a b c : Expr} {ga gb gc : Env → Store → R D} {gs : Env → Store → R (List D)} {es : List Expr} {pos : Pos}
/-! ### argument lists, displays -/
theorem g_nil : PA X [] (tGA Z fun _ S => .ok [] S) := by
  refine PA.imp pa_nil fun σ H Q h => ?_
  obtain ⟨ρ, w, rfl, ok, r, p⟩ := h
  exact p w (Ext.refl w) ok rfl [] (by simp only [RepL])
theorem g_cons (ha : PE X a (tG Z ga)) (hs : PA X es (tGA Z gs)) (hst : starEach (a :: es) X.env = (false, eval a X.env) :: starEach es X.env) :
    PA X (a :: es) (tGA Z fun ρ S => (ga ρ S).bind fun d S1 => (gs ρ S1).bind fun ds S2 => .ok (d :: ds) S2) := by
  refine PA.imp (pa_cons ha hs hst) fun σ H Q h => ?_
  obtain ⟨ρ, w, rfl, ok, r, p⟩ := h
  refine ⟨ρ, w, rfl, ok, r, p.bind.imp fun x w1 e1 ok1 p1 v rv => ?_⟩
  refine ⟨ρ, w1, rfl, ok1, r.ext e1, p1.bind.imp fun ds w2 e2 ok2 p2 vs rs => ?_⟩
  refine p2 w2 (Ext.refl w2) ok2 rfl (v :: vs) ?_
  simp only [RepL]
  exact ⟨v, vs, rfl, rv.ext e2, rs⟩
theorem g_tup {k : Nat} (hs : PA X es (tGA Z gs)) (hl : ∀ ρ S ds S', gs ρ S = .ok ds S' → ds.length ≤ LIM) : PE X (.Tuple es k pos) (tG Z fun ρ S => (gs ρ S).bind fun ds S1 => .ok (.tup ds) S1) := by
  refine PE.imp (pe_tup hs) fun σ H Q h => ?_
  obtain ⟨ρ, w, rfl, ok, r, p⟩ := h
  dsimp only at p
  refine ⟨ρ, w, rfl, ok, r, ?_⟩
  cases e : gs ρ w.S with
  | no => rw [e] at p; exact p
  | ex c vs S' => rw [e] at p; exact p
  | ok ds S1 =>
    rw [e] at p
    rw [bind_ok] at p
    intro w1 e1 ok1 s1 vs rs
    refine ⟨?_, fun q n => ?_⟩
    · rw [← rs.length]
      exact lim_line (hl _ _ _ _ e)
    · exact p (w1.new q (.tup vs)) (e1.trans (Wd.new_ext ok1.sub n)) (ok1.new n (fun ps z => by cases z)) s1 _ (rep_newT ok1 n rs)
theorem g_lst (hs : PA X es (tGA Z gs)) (hl : ∀ ρ S ds S', gs ρ S = .ok ds S' → ds.length ≤ LIM) : PE X (.List es pos) (tG Z fun ρ S => (gs ρ S).bind fun ds S1 => .ok (.lst ds) S1) := by
  refine PE.imp (pe_lst hs) fun σ H Q h => ?_
  obtain ⟨ρ, w, rfl, ok, r, p⟩ := h
  dsimp only at p
  refine ⟨ρ, w, rfl, ok, r, ?_⟩
  cases e : gs ρ w.S with
  | no => rw [e] at p; exact p
  | ex c vs S' => rw [e] at p; exact p
  | ok ds S1 =>
    rw [e] at p
    rw [bind_ok] at p
    intro w1 e1 ok1 s1 vs rs
    refine ⟨?_, fun q n => ?_⟩
    · rw [← rs.length]
      exact lim_line (hl _ _ _ _ e)
    · exact p (w1.new q (.lst vs)) (e1.trans (Wd.new_ext ok1.sub n)) (ok1.new n (fun ps z => by cases z)) s1 _ (rep_newL ok1 n rs)

/-! ### a list of the frame's own, read at once -/
/-- the frame's own list is looked at as a frozen one -/
theorem RepB.freeze {w : Wd} {d : D} {v : V} (ok : WOk Z.G w) (r : RepB Z w d v) : ∃ F, WOk Z.G { w with F := F } ∧ Sub w.F F ∧ RepV Z.G F w.M d v ∧ (∀ a, w.F a ≠ none → F a = w.F a) := by
  rcases r with r | ⟨⟨ds, rfl⟩, r⟩
  · exact ⟨w.F, ok, Sub.refl _, r, fun _ _ => rfl⟩
  · · obtain ⟨p, vs, rfl, f, h0, m, h, l⟩ := r
      have hs : Sub w.F (upd w.F p (.lst vs)) := fun a o e => by
        rw [upd_ne (ne_of_none e f)]
        exact e
      refine ⟨upd w.F p (.lst vs), ⟨fun a o e => ?_, ok.nd, ok.len, fun n a so e1 e2 => ?_, ok.tab, fun a ps e => ?_⟩, hs, rep_lst.mpr ⟨p, vs, rfl, upd_same, l.mono hs ⟨[], by simp⟩⟩, fun a ha => ?_⟩
      · by_cases z : a = p
        · subst z
          have e' : upd w.F a (.lst vs) a = some o := e
          rw [upd_same] at e'
          cases e'
          exact h
        · have e' : upd w.F p (.lst vs) a = some o := e
          rw [upd_ne z] at e'
          exact ok.sub _ _ e'
      · obtain ⟨g1, g2⟩ := ok.st n a so e1 e2
        have hne : a ≠ p := by
          rintro rfl
          exact m (List.mem_of_getElem? e1)
        refine ⟨by show upd w.F p _ a = none; rw [upd_ne hne]; exact g1, ?_⟩
        cases so with
        | lst ds =>
          obtain ⟨us, q1, q2⟩ := g2
          exact ⟨us, q1, q2.mono hs ⟨[], by simp⟩⟩
        | ins _ _ => exact g2.elim
      · have e' : upd w.F p (.lst vs) a = some (.tbl ps) := e
        by_cases z : a = p
        · subst z
          rw [upd_same] at e'
          cases e'
        · rw [upd_ne z] at e'
          exact ok.ntb _ _ e'
      · exact upd_ne fun z => ha (by rw [z]; exact f)
theorem g_own {i : Nat} {x : Str} (hN : X.N[i]? = some x) (hv : Vis X.env.scope x) (hd : (x == ("__debug__" : Str)) = false) (hcd : (x == ("__classdict__" : Str)) = false) :
    PE X (.Name x pos) (tGB Z fun ρ S => .of (getL ρ i) S) := by
  refine PE.imp (pe_var hN hv hd hcd) fun σ H Q h => ?_
  obtain ⟨ρ, w, rfl, wok, r, p⟩ := h
  obtain ⟨d, e, k⟩ := p.of wok
  obtain ⟨hg, hl⟩ := getL_is e
  obtain ⟨v, e1, o, q⟩ := r.val i d hg
  refine ⟨v, e1, k w (Ext.refl w) wok rfl v ?_⟩
  by_cases hi : i ∈ Z.O
  · exact .inr ⟨hl, o hi⟩
  · exact .inl (q hi)
theorem g_toB {e : Expr} {g : Env → Store → R D} (h : PE X e (tG Z g)) : PE X e (tGB Z g) := by
  refine PE.imp h fun σ H Q ⟨ρ, w, e, ok, r, p⟩ => ⟨ρ, w, e, ok, r, p.imp fun d w' _ _ q v rv => q v (.inl rv)⟩
end
end RB

set_option Elab.async false
set_option linter.all false
set_option maxRecDepth 100000
set_option maxHeartbeats 4000000
set_option autoImplicit false
/-! Consumers: subscripts, slices, len, tuple, in, of a value or of a list of the frame's own. -/
namespace RB
open PySem PySem.Spec PyProof.Rows L2

section
variable {Z : Fm} {σ : Sl} {H : Hp} {Q Q' : VK}
theorem tGB.imp {g : Env → Store → R D} (h : tGB Z g σ H Q) (k : ∀ v H, Q v H → Q' v H) : tGB Z g σ H Q' := by
  obtain ⟨ρ, w, e, ok, r, p⟩ := h
  exact ⟨ρ, w, e, ok, r, p.imp fun _ _ _ _ q v rv => k _ _ (q v rv)⟩
theorem run1B {ga : Env → Store → R D} {k : Env → D → Store → R D} (h : tG Z (fun ρ S => (ga ρ S).bind (k ρ)) σ H Q) :
    tGB Z ga σ H fun v H1 => ∃ ρ x w, w.H = H1 ∧ WOk Z.G w ∧ EnvR Z w σ ρ ∧ RepB Z w x v ∧ Post Z σ w (k ρ x w.S) fun d w' => ∀ v, RepV Z.G w'.F w'.M d v → Q v w'.H := by
  obtain ⟨ρ, w, rfl, ok, r, p⟩ := h
  exact ⟨ρ, w, rfl, ok, r, p.bind.imp fun x w1 e ok1 p1 v rv => ⟨ρ, x, w1, rfl, ok1, r.ext e, rv, p1⟩⟩
theorem run2B {ga gb : Env → Store → R D} {k : D → D → Store → R D} (h : tG Z (fun ρ S => (ga ρ S).bind fun x S1 => (gb ρ S1).bind fun y S2 => k x y S2) σ H Q) :
    tGB Z ga σ H fun v H1 => tGB Z gb σ H1 fun u H2 => ∃ ρ x y w, w.H = H2 ∧ WOk Z.G w ∧ EnvR Z w σ ρ ∧ RepB Z w x v ∧ RepB Z w y u ∧ Post Z σ w (k x y w.S) fun d w' => ∀ v, RepV Z.G w'.F w'.M d v → Q v w'.H :=
  (run1B (k := fun ρ x S1 => (gb ρ S1).bind fun y S2 => k x y S2) h).imp fun v H1 ⟨ρ, x, w, e, ok, r, rx, p⟩ =>
    ⟨ρ, w, e, ok, r, p.bind.imp fun y w2 e2 ok2 p2 u ru => ⟨ρ, x, y, w2, rfl, ok2, r.ext e2, rx.ext e2, ru, p2⟩⟩
end
section
variable {Z : Fm} {X : Cx} {a b c : Expr} {ga gb gc : Env → Store → R D} {pos : Pos}
theorem idxB_ok (ok : XOk Z X) : IxR X (fun x y H Q => ∃ dx dy d w, w.H = H ∧ WOk Z.G w ∧ RepB Z w dx x ∧ RepV Z.G w.F w.M dy y ∧ idxS w.S dx dy = some d ∧
    ∀ v w', Ext w w' → WOk Z.G w' → w'.S = w.S → RepV Z.G w'.F w'.M d v → Q v w'.H) := by
  intro value slice pins s σ H x y v u Q I rx ry q hp
  obtain ⟨dx, dy, d, w, rfl, wok, r1, r2, e, k⟩ := q
  rcases r1 with r1 | ⟨⟨ds, rfl⟩, r1⟩
  · exact idx_ok ok.hK value slice pins s σ w.H x y v u Q I rx ry ⟨dx, dy, d, w, rfl, wok, r1, r2, e, k⟩ hp
  · · obtain ⟨p, vs, rfl, f, h0, m, h, l⟩ := r1
      cases dy <;> dsimp only [idxS, idxD] at e <;> try (cases e; done)
      rw [rep_int] at r2
      obtain ⟨z, h1, h2⟩ := at_rep l e
      exact ix_list value slice pins s σ w.H _ y v u Q I rx ry ⟨p, vs, _, z, rfl, r2, .of h, h1, k _ w (Ext.refl w) wok rfl h2⟩ hp
theorem g_idx (ok : XOk Z X) (ha : PE X a (tGB Z ga)) (hb : PE X b (tG Z gb)) (hs : PlainIx b) :
    PE X (.Subscript a b pos) (tG Z fun ρ S => (ga ρ S).bind fun x S1 => (gb ρ S1).bind fun y S2 => .of (idxS S2 x y) S2) := by
  refine PE.imp (pe_ix (idxB_ok ok) ha hb hs) fun σ H Q h => ?_
  refine (run1B (k := fun ρ x S1 => (gb ρ S1).bind fun y S2 => .of (idxS S2 x y) S2) h).imp fun v H1 ⟨ρ, x, w, e, ok1, r, rx, p⟩ => ?_
  refine ⟨ρ, w, e, ok1, r, p.bind.imp fun y w2 e2 ok2 p2 u ru => ?_⟩
  obtain ⟨d, e3, k⟩ := p2.of ok2
  exact ⟨x, y, d, w2, rfl, ok2, rx.ext e2, ru, e3, fun v w' a1 a2 a3 a4 => k w' a1 a2 a3 v a4⟩

/-! ### slices -/
theorem slcB_ok (ok : XOk Z X) : SlR X (fun x lo hi H Q => ∃ dx d w, w.H = H ∧ WOk Z.G w ∧ RepB Z w dx x ∧ slcD dx lo hi = some d ∧ ∀ v w', Ext w w' → WOk Z.G w' → w'.S = w.S → RepV Z.G w'.F w'.M d v → Q v w'.H) := by
  intro pins s σ H x v vl vu lo hi sl Q I rx hs pl pu q
  obtain ⟨dx, d, w, rfl, wok, r1, e, k⟩ := q
  rcases r1 with r1 | ⟨⟨ds, rfl⟩, r1⟩
  · exact slc_ok ok.hK pins s σ w.H x v vl vu lo hi sl Q I rx hs pl pu ⟨dx, d, w, rfl, wok, r1, e, k⟩
  · · obtain ⟨p, vs, rfl, f, h0, m, h, l⟩ := r1
      cases e
      exact sl_list pins s σ w.H _ v vl vu lo hi sl Q I rx hs pl pu ⟨p, vs, rfl, .of h, fun p n => k _ (w.new p (.lst (cutV vs lo hi))) (Wd.new_ext wok.sub n) (wok.new n (fun ps z => by cases z)) rfl (rep_newL wok n (cut_rep l))⟩
/-- a part of a slice as a meaning -/
def GP (Z : Fm) (X : Cx) (e : Option Expr) (g : Env → Store → R (Option Int)) : Prop := PO X e fun σ H Q => ∃ ρ w, w.H = H ∧ WOk Z.G w ∧ EnvR Z w σ ρ ∧ Post Z σ w (g ρ w.S) fun o w' => Q o w'.H
theorem g_noPart : GP Z X none (fun _ S => .ok none S) := by
  refine ⟨fun pins s σ H Q I h => po_none.run pins s σ H Q I ?_⟩
  obtain ⟨ρ, w, rfl, ok, r, p⟩ := h
  exact p w (Ext.refl w) ok rfl
theorem g_part {e : Expr} (he : PE X e (tG Z ga)) : GP Z X (some e) (fun ρ S => (ga ρ S).bind fun x S1 => match x with
      | .int i => .ok (some i) S1
      | _ => .no) := by
  refine ⟨fun pins s σ H Q I h => (po_some he).run pins s σ H Q I ?_⟩
  obtain ⟨ρ, w, rfl, ok, r, p⟩ := h
  refine ⟨ρ, w, rfl, ok, r, p.bind.imp fun x w1 e1 ok1 p1 v rv => ?_⟩
  cases x with
  | int i =>
    rw [rep_int] at rv
    exact ⟨i, rv, p1 w1 (Ext.refl w1) ok1 rfl⟩
  | _ => exact p1.elim
theorem g_slc (ok : XOk Z X) {lo hi : Option Expr} {p2 : Pos} {gl gh : Env → Store → R (Option Int)} (ha : PE X a (tGB Z ga)) (hl : GP Z X lo gl) (hh : GP Z X hi gh) :
    PE X (.Subscript a (.Slice lo hi none p2) pos) (tG Z fun ρ S => (ga ρ S).bind fun x S1 => (gl ρ S1).bind fun l S2 => (gh ρ S2).bind fun h S3 => .of (slcD x l h) S3) := by
  refine PE.imp (pe_slice (slcB_ok ok) ha hl hh) fun σ H Q h => ?_
  refine (run1B (k := fun ρ x S1 => (gl ρ S1).bind fun l S2 => (gh ρ S2).bind fun h S3 => .of (slcD x l h) S3) h).imp fun v H1 ⟨ρ, x, w, e, ok1, r, rx, p⟩ => ?_
  refine ⟨ρ, w, e, ok1, r, p.bind.imp fun l w2 e2 ok2 p2 => ?_⟩
  refine ⟨ρ, w2, rfl, ok2, r.ext e2, p2.bind.imp fun h w3 e3 ok3 p3 => ?_⟩
  obtain ⟨d, e4, k⟩ := p3.of ok3
  exact ⟨x, d, w3, rfl, ok3, (rx.ext e2).ext e3, e4, fun v w' a1 a2 a3 a4 => k w' a1 a2 a3 v a4⟩

/-! ### calls by name -/
theorem g_b1 {f : D → Option D} {id : String} {x : Str} {p : Pos} (hc : CallR X (.builtin id) (rB1 Z.G f)) (hg : Gl X x) (hm : X.mg x = none) (hv : bootBuiltins x = some (.builtin id)) (hn : x ≠ "__name__") (hdb : (x == ("__debug__" : Str)) = false)
    (ha : PE X a (tG Z ga)) (hst : starEach [a] X.env = (false, eval a X.env) :: starEach [] X.env) : PE X (.Call (.Name x p) [a] [] pos) (tG Z fun ρ S => (ga ρ S).bind fun d S1 => .of (f d) S1) := by
  refine PE.imp (pe_callB hc hg hm hv (pa_cons ha pa_nil hst) hn hdb hst rfl) fun σ H Q h => ?_
  refine (run1 (k := fun _ d S1 => .of (f d) S1) h).imp fun v H1 ⟨ρ, x, w, e, ok1, r, rx, p⟩ => ?_
  obtain ⟨d, e1, k⟩ := p.of ok1
  exact ⟨v, x, d, w, rfl, e, ok1, rx, e1, fun v w' a1 a2 a3 a4 => k w' a1 a2 a3 v a4⟩
theorem g_t1 {f : D → Option D} {id : String} {x : Str} {p : Pos} (hc : CallR X (.type id) (rB1 Z.G f)) (hg : Gl X x) (hm : X.mg x = none) (hv : bootBuiltins x = some (.type id)) (hn : x ≠ "__name__") (hdb : (x == ("__debug__" : Str)) = false)
    (ha : PE X a (tG Z ga)) (hst : starEach [a] X.env = (false, eval a X.env) :: starEach [] X.env) : PE X (.Call (.Name x p) [a] [] pos) (tG Z fun ρ S => (ga ρ S).bind fun d S1 => .of (f d) S1) := by
  refine PE.imp (pe_callTy hc hg hm hv (pa_cons ha pa_nil hst) hn hdb hst rfl) fun σ H Q h => ?_
  refine (run1 (k := fun _ d S1 => .of (f d) S1) h).imp fun v H1 ⟨ρ, x, w, e, ok1, r, rx, p⟩ => ?_
  obtain ⟨d, e1, k⟩ := p.of ok1
  exact ⟨v, x, d, w, rfl, e, ok1, rx, e1, fun v w' a1 a2 a3 a4 => k w' a1 a2 a3 v a4⟩
theorem g_b2 {f : D → D → Option D} {id : String} {x : Str} {p : Pos} (hc : CallR X (.builtin id) (rB2 Z.G f)) (hg : Gl X x) (hm : X.mg x = none) (hv : bootBuiltins x = some (.builtin id)) (hn : x ≠ "__name__") (hdb : (x == ("__debug__" : Str)) = false)
    (ha : PE X a (tG Z ga)) (hb : PE X b (tG Z gb)) (hst : starEach [a, b] X.env = (false, eval a X.env) :: starEach [b] X.env) (hst2 : starEach [b] X.env = (false, eval b X.env) :: starEach [] X.env) :
    PE X (.Call (.Name x p) [a, b] [] pos) (tG Z fun ρ S => (ga ρ S).bind fun d S1 => (gb ρ S1).bind fun e S2 => .of (f d e) S2) := by
  refine PE.imp (pe_callB hc hg hm hv (pa_cons ha (pa_cons hb pa_nil hst2) hst) hn hdb hst (by rw [hst2]; rfl)) fun σ H Q h => ?_
  refine (run2 (k := fun d e S2 => .of (f d e) S2) h).imp fun v H1 h => h.imp fun u H2 ⟨ρ, x, y, w, e, ok1, r, rx, ry, p⟩ => ?_
  obtain ⟨d, e1, k⟩ := p.of ok1
  exact ⟨v, u, x, y, d, w, rfl, e, ok1, rx, ry, e1, fun v w' a1 a2 a3 a4 => k w' a1 a2 a3 v a4⟩
end
end RB

set_option Elab.async false
set_option linter.all false
set_option maxRecDepth 100000
set_option maxHeartbeats 4000000
set_option autoImplicit false
/-! Statements; a def's body; a def's call. -/
namespace RB
open PySem PySem.Spec PyProof.Rows L2

/-! ### what is wanted behind a statement -/
def ExtF (w w' : Wd) : Prop := Sub w.F w'.F ∧ Pre w.M w'.M
theorem Ext.toF {w w' : Wd} (e : Ext w w') : ExtF w w' := ⟨e.fs, e.pre⟩
theorem ExtF.trans {w w' w'' : Wd} (a : ExtF w w') (b : ExtF w' w'') : ExtF w w'' := ⟨a.1.trans b.1, by
  obtain ⟨m, h⟩ := a.2
  obtain ⟨m', h'⟩ := b.2
  exact ⟨m ++ m', by rw [h', h, List.append_assoc]⟩⟩
theorem ExtF.refl (w : Wd) : ExtF w w := ⟨Sub.refl _, [], by simp⟩
def PostS (Z : Fm) (w : Wd) (r : R Fl) (D : Ends) : Prop := match r with
  | .ok (.nx ρ') S' => ∀ σ' w', ExtF w w' → Ext Z.w0 w' → WOk Z.G w' → w'.S = S' → EnvR Z w' σ' ρ' → D.nx σ' w'.H
  | .ok (.rt d) S' => ∀ w' v, Ext Z.w0 w' → WOk Z.G w' → w'.S = S' → RepV Z.G w'.F w'.M d v → D.rt v w'.H
  | .ex c vs S' => ∀ w' cls dx σ', Ext Z.w0 w' → WOk Z.G w' → w'.S = S' → Z.cx c vs w' cls dx → Z.Wx cls dx σ' w'.H
  | .no => False
/-- a statement's reading -/
def tS (Z : Fm) (g : Env → Store → R Fl) : TS := fun D σ H => ∃ ρ w, w.H = H ∧ WOk Z.G w ∧ EnvR Z w σ ρ ∧ Ext Z.w0 w ∧ PostS Z w (g ρ w.S) D
theorem PostS.ext {Z : Fm} {w w1 : Wd} {r : R Fl} {D : Ends} (p : PostS Z w r D) (e : ExtF w w1) : PostS Z w1 r D := by
  cases r with
  | ok f S' =>
    cases f with
    | nx ρ' => exact fun σ' w' e' => p σ' w' (e.trans e')
    | rt d => exact p
  | ex c vs S' => exact p
  | no => exact p.elim
/-- an expression within a statement -/
theorem PostS.bind {α : Type} {Z : Fm} {σ : Sl} {w : Wd} {r : R α} {k : α → Store → R Fl} {D : Ends} (e0 : Ext Z.w0 w) (p : PostS Z w (r.bind k) D) :
    Post Z σ w r fun a w1 => Ext Z.w0 w1 ∧ PostS Z w1 (k a w1.S) D := by
  cases r with
  | ok d S' =>
    intro w1 e k1 s
    subst s
    exact ⟨e0.trans e, PostS.ext p e.toF⟩
  | ex c vs S' => exact fun w' cls dx e ok es h => p w' cls dx σ (e0.trans e) ok es h
  | no => exact p.elim

theorem getV_set_same {ρ : Env} {i : Nat} {d : D} (h : i < ρ.length) : getV (ρ.set i (some d)) i = some d := by
  unfold getV
  rw [List.getElem?_set_self h]
theorem getV_set_ne {ρ : Env} {i j : Nat} {o : Option D} (h : i ≠ j) : getV (ρ.set i o) j = getV ρ j := by
  unfold getV
  rw [List.getElem?_set_ne h]
theorem EnvR.set {Z : Fm} {w : Wd} {σ : Sl} {ρ : Env} (r : EnvR Z w σ ρ) {i : Nat} {d : D} {v : V} (hi : i < ρ.length) (ho : i ∉ Z.O) (rv : RepV Z.G w.F w.M d v) : EnvR Z w (σ.set i (some v)) (ρ.set i (some d)) where
  len := by simp [r.len]
  val := fun j e h => by
    by_cases hj : i = j
    · subst hj
      rw [getV_set_same hi] at h
      cases h
      exact ⟨v, by rw [List.getElem?_set_self (by rw [r.len]; exact hi)], fun h => absurd h ho, fun _ => rv⟩
    · rw [getV_set_ne hj] at h
      obtain ⟨u, e1, a, b⟩ := r.val j e h
      exact ⟨u, by rw [List.getElem?_set_ne hj]; exact e1, a, b⟩
  dis := fun j k e f p hj hk h1 h2 h3 h4 => by
    have nj : i ≠ j := fun z => ho (z ▸ hj)
    have nk : i ≠ k := fun z => ho (z ▸ hk)
    rw [getV_set_ne nj] at h1
    rw [getV_set_ne nk] at h2
    rw [List.getElem?_set_ne nj] at h3
    rw [List.getElem?_set_ne nk] at h4
    exact r.dis j k e f p hj hk h1 h2 h3 h4

section
variable {Z : Fm} {X : Cx} {a b c : Expr} {ga gb gc : Env → Store → R D} {gs : Env → Store → R (List D)} {es : List Expr} {pos : Pos} {st : Stmt} {sts : List Stmt} {g h : Env → Store → R Fl}
theorem s_nil : PSs X [] (tS Z fun ρ S => .ok (.nx ρ) S) :=
  PSs.imp pss_nil fun D σ H ⟨ρ, w, e, ok, r, e0, p⟩ => by
    rw [← e]
    exact p σ w (ExtF.refl w) e0 ok rfl r
theorem s_pass : PS X (.Pass pos) (tS Z fun ρ S => .ok (.nx ρ) S) :=
  PS.imp ps_pass fun D σ H ⟨ρ, w, e, ok, r, e0, p⟩ => by
    rw [← e]
    exact p σ w (ExtF.refl w) e0 ok rfl r
theorem s_cons (hs : PS X st (tS Z g)) (ht : PSs X sts (tS Z h)) : PSs X (st :: sts) (tS Z fun ρ S => (g ρ S).bind fun f S1 => match f with
    | .nx ρ1 => h ρ1 S1
    | .rt d => .ok (.rt d) S1) := by
  refine PSs.imp (pss_cons hs ht) fun D σ H ⟨ρ, w, e, ok, r, e0, p⟩ => ?_
  refine ⟨ρ, w, e, ok, r, e0, ?_⟩
  dsimp only at p
  cases eg : g ρ w.S with
  | no => rw [eg] at p; exact p
  | ex c vs S' => rw [eg] at p; exact p
  | ok f S1 =>
    rw [eg] at p
    cases f with
    | rt d => exact p
    | nx ρ1 =>
      intro σ' w' e1 e2 ok2 es r2
      subst es
      exact ⟨ρ1, w', rfl, ok2, r2, e2, PostS.ext p e1⟩
theorem s_expr {e : Expr} (he : PE X e (tG Z ga)) (hs : swapsWith e none pos.line X.env = pure false) : PS X (.Expr e pos) (tS Z fun ρ S => (ga ρ S).bind fun _ S1 => .ok (.nx ρ) S1) := by
  refine PS.imp (ps_expr he hs) fun D σ H ⟨ρ, w, e, ok, r, e0, p⟩ => ?_
  refine ⟨ρ, w, e, ok, r, (PostS.bind (σ := σ) e0 p).imp fun x w1 e1 ok1 ⟨e2, p1⟩ v rv => ?_⟩
  exact p1 σ w1 (ExtF.refl w1) e2 ok1 rfl (r.ext e1)
theorem s_ret {e : Expr} (he : PE X e (tG Z ga)) : PS X (.Return (some e) pos) (tS Z fun ρ S => (ga ρ S).bind fun d S1 => .ok (.rt d) S1) := by
  refine PS.imp (ps_ret he) fun D σ H ⟨ρ, w, e, ok, r, e0, p⟩ => ?_
  exact ⟨ρ, w, e, ok, r, (PostS.bind (σ := σ) e0 p).imp fun x w1 e1 ok1 ⟨e2, p1⟩ v rv => p1 w1 v e2 ok1 rfl rv⟩
theorem s_if (hc : PT X c (tGT Z gc)) (ha : PSs X sts (tS Z g)) {sts' : List Stmt} (hb : PSs X sts' (tS Z h)) :
    PS X (.If c sts sts' pos) (tS Z fun ρ S => (gc ρ S).bind fun x S1 => (toBl x S1).bind fun b S2 => if b then g ρ S2 else h ρ S2) := by
  refine PS.imp (ps_if hc ha hb) fun D σ H ⟨ρ, w, e, ok, r, e0, p⟩ => ?_
  refine ⟨ρ, w, e, ok, r, ?_⟩
  dsimp only at p
  cases eg : gc ρ w.S with
  | no => rw [eg] at p; exact p.elim
  | ex c vs S' =>
    rw [eg] at p
    exact fun w' cls dx e1 ok1 es hx => p w' cls dx σ (e0.trans e1) ok1 es hx
  | ok x S1 =>
    rw [eg] at p
    rw [bind_ok] at p ⊢
    cases x with
    | bl t =>
      intro w1 e1 ok1 es
      subst es
      have q : PostS Z w1 (if t = true then g ρ w1.S else h ρ w1.S) D := PostS.ext p e1.toF
      cases t with
      | true =>
        rw [if_pos rfl] at q ⊢
        exact ⟨ρ, w1, rfl, ok1, r.ext e1, e0.trans e1, q⟩
      | false =>
        rw [if_neg Bool.false_ne_true] at q ⊢
        exact ⟨ρ, w1, rfl, ok1, r.ext e1, e0.trans e1, q⟩
    | _ => exact p.elim
theorem s_asg {i : Nat} {x : Str} {e : Expr} {pos' : Pos} (ok : XOk Z X) (hi : X.N[i]? = some x) (hx : Loc X.env.scope x) (he : PE X e (tG Z ga)) (hs : swapsWith e (some (.Name x pos')) pos.line X.env = pure false)
    (hf : X.fn x = true ∨ X.env.scope.names.lookup x = some .local) (ho : i ∉ Z.O) :
    PS X (.Assign [.Name x pos'] e pos) (tS Z fun ρ S => (ga ρ S).bind fun d S1 => setI ρ i d S1) := by
  refine PS.imp (ps_set ok.nd hi hx he hs hf) fun D σ H ⟨ρ, w, e, wok, r, e0, p⟩ => ?_
  refine ⟨ρ, w, e, wok, r, (PostS.bind (σ := σ) e0 p).imp fun d w1 e1 ok1 ⟨e2, p1⟩ v rv => ?_⟩
  unfold setI at p1
  split at p1
  · rename_i hl
    exact p1 (σ.set i (some v)) w1 (ExtF.refl w1) e2 ok1 rfl ((r.ext e1).set hl ho rv)
  · exact p1.elim
end
end RB

set_option Elab.async false
set_option linter.all false
set_option maxRecDepth 100000
set_option maxHeartbeats 4000000
set_option autoImplicit false
/-! Targets, loops, comprehensions. -/
namespace RB
open PySem PySem.Spec PyProof.Rows L2

/-! ### targets -/
def lenT : Tg → Nat
  | .cons _ ts => lenT ts + 1
  | _ => 0
/-- slots that are not told stay -/
def Same (σ σ' : Sl) (is : List Nat) : Prop := σ'.length = σ.length ∧ ∀ j, j ∉ is → σ'[j]? = σ[j]?
theorem Same.refl (σ : Sl) (is : List Nat) : Same σ σ is := ⟨rfl, fun _ _ => rfl⟩
theorem Same.trans {σ σ' σ'' : Sl} {is js ks : List Nat} (a : Same σ σ' is) (b : Same σ' σ'' js) (h : ∀ j, j ∉ ks → j ∉ is ∧ j ∉ js) : Same σ σ'' ks :=
  ⟨b.1.trans a.1, fun j hj => (b.2 j (h j hj).2).trans (a.2 j (h j hj).1)⟩
def gT (Z : Fm) (t : Tg) : TG := fun v σ H Q => ∃ ρ w d ρ', w.H = H ∧ WOk Z.G w ∧ EnvR Z w σ ρ ∧ RepV Z.G w.F w.M d v ∧ setT t d ρ = some ρ' ∧ ∀ σ', EnvR Z w σ' ρ' → Same σ σ' (slotsT t) → Q σ' w.H
def gTs (Z : Fm) (t : Tg) : TGs := fun vs σ H Q => ∃ ρ w ds ρ', w.H = H ∧ WOk Z.G w ∧ EnvR Z w σ ρ ∧ RepL Z.G w.F w.M ds vs ∧ setTs t ds ρ = some ρ' ∧ ∀ σ', EnvR Z w σ' ρ' → Same σ σ' (slotsT t) → Q σ' w.H
theorem PG.imp {X : Cx} {tg : Expr} {t t' : TG} (h : PG X tg t) (k : ∀ v σ H Q, t' v σ H Q → t v σ H Q) : PG X tg t' := ⟨fun pins s σ H v u Q I r q => h.run pins s σ H v u Q I r (k v σ H Q q)⟩
theorem PGs.imp {X : Cx} {tg : List Expr} {t t' : TGs} (h : PGs X tg t) (k : ∀ v σ H Q, t' v σ H Q → t v σ H Q) : PGs X tg t' := ⟨fun pins s σ H v u Q I r q => h.run pins s σ H v u Q I r (k v σ H Q q)⟩
section
variable {Z : Fm} {X : Cx} {pos : Pos}
theorem t_name {i : Nat} {x : Str} (ok : XOk Z X) (hi : X.N[i]? = some x) (hx : Loc X.env.scope x) (hf : X.fn x = true ∨ X.env.scope.names.lookup x = some .local) (ho : i ∉ Z.O) : PG X (.Name x pos) (gT Z (.nm i)) := by
  refine PG.imp (pg_name ok.nd hi hx hf) fun v σ H Q ⟨ρ, w, d, ρ', e, wok, r, rv, es, k⟩ => ?_
  rw [setT] at es
  split at es
  · rename_i hl
    cases es
    rw [← e]
    exact k _ (r.set hl ho rv) ⟨by simp, fun j hj => List.getElem?_set_ne (by simpa [slotsT, eq_comm] using hj)⟩
  · cases es
theorem t_nil : PGs X [] (gTs Z .nil) := by
  refine PGs.imp pgs_nil fun v σ H Q ⟨ρ, w, ds, ρ', e, wok, r, rv, es, k⟩ => ?_
  cases ds with
  | nil =>
    simp only [setTs, Option.some.injEq] at es
    subst es
    simp only [RepL] at rv
    subst e
    exact ⟨rv, k σ r (Same.refl _ _)⟩
  | cons _ _ => simp [setTs] at es
theorem t_cons {a : Expr} {es : List Expr} {t ts : Tg} (ha : PG X a (gT Z t)) (hs : PGs X es (gTs Z ts)) (hst : (assignEach (a :: es) X.env).map (·.2) = assign a X.env :: (assignEach es X.env).map (·.2)) : PGs X (a :: es) (gTs Z (.cons t ts)) := by
  refine PGs.imp (pgs_cons ha hs hst) fun v σ H Q ⟨ρ, w, ds, ρ', e, wok, r, rv, es, k⟩ => ?_
  cases ds with
  | nil => simp [setTs] at es
  | cons d ds =>
    rw [setTs] at es
    obtain ⟨ρ1, e1, e2⟩ := Option.bind_eq_some_iff.mp es
    simp only [RepL] at rv
    obtain ⟨u, us, rfl, ru, rs⟩ := rv
    refine ⟨u, us, rfl, ρ, w, d, ρ1, e, wok, r, ru, e1, fun σ1 r1 s1 => ?_⟩
    refine ⟨ρ1, w, ds, ρ', rfl, wok, r1, rs, e2, fun σ2 r2 s2 => k σ2 r2 (s1.trans s2 fun j hj => ?_)⟩
    simpa [slotsT] using hj
theorem setTs_len : ∀ {t : Tg} {ds : List D} {ρ ρ' : Env}, setTs t ds ρ = some ρ' → ds.length = lenT t
  | .nil, ds, ρ, ρ', h => by
    cases ds with
    | nil => rfl
    | cons _ _ => simp [setTs] at h
  | .cons t ts, ds, ρ, ρ', h => by
    cases ds with
    | nil => simp [setTs] at h
    | cons d ds =>
      rw [setTs] at h
      obtain ⟨ρ1, _, e2⟩ := Option.bind_eq_some_iff.mp h
      rw [List.length_cons, setTs_len e2]
      rfl
  | .nm _, ds, ρ, ρ', h => by simp [setTs] at h
  | .tp _, ds, ρ, ρ', h => by simp [setTs] at h
theorem t_tup {es : List Expr} {k : Nat} {ts : Tg} (ok : XOk Z X) (h : PGs X es (gTs Z ts)) (hn : (assignEach es X.env).length = lenT ts) (hst : (assignEach es X.env).findIdx? (·.1) = none) : PG X (.Tuple es k pos) (gT Z (.tp ts)) := by
  refine PG.imp (pg_tup ok.calm h hn hst) fun v σ H Q ⟨ρ, w, d, ρ', e, wok, r, rv, es, kk⟩ => ?_
  cases d with
  | tup ds =>
    rw [setT] at es
    obtain ⟨a, vs, rfl, q, l⟩ := rep_tup.mp rv
    refine ⟨a, vs, rfl, ?_, ?_, ρ, w, ds, ρ', e, wok, r, l, es, fun σ' r' s' => kk σ' r' s'⟩
    · rw [ok.hK, ← e]
      exact wok.sub.sqT q
    · rw [← l.length, setTs_len es]
  | _ => simp [setT] at es

/-! ### what a loop walks -/
structure Walks (Z : Fm) (J : It) (w0 : Wd) (ds : List D) : Prop where
  go : ∀ (i : Nat) (d : D) (w : Wd), ds[i]? = some d → ExtF w0 w → WOk Z.G w → J.go i w.H ∧ ∀ x H', J.yld i w.H x H' → ∃ w', w'.H = H' ∧ Ext w w' ∧ WOk Z.G w' ∧ w'.S = w.S ∧ RepV Z.G w'.F w'.M d x
  stop : ∀ w : Wd, ExtF w0 w → WOk Z.G w → J.stop ds.length w.H
def tI (Z : Fm) (g : Env → Store → R (List D)) : TI := fun σ H R => ∃ ρ w, w.H = H ∧ WOk Z.G w ∧ EnvR Z w σ ρ ∧ Post Z σ w (g ρ w.S) fun ds w' => ∀ J, Walks Z J w' ds → R J w'.H

theorem walks_same {J : It} {w0 : Wd} {ds : List D} {n : Nat} {G : Hp → Prop} {f : Nat → V → Prop} (wk : Walk J n G fun i H x H' => H' = H ∧ f i x) (hn : n = ds.length) (hG : ∀ w : Wd, ExtF w0 w → WOk Z.G w → G w.H)
    (hf : ∀ (i : Nat) (d : D) (x : V) (w : Wd), ds[i]? = some d → ExtF w0 w → f i x → RepV Z.G w.F w.M d x) : Walks Z J w0 ds where
  go := fun i d w e ex ok => by
    have hi : i < n := by
      rw [hn]
      exact (List.getElem?_eq_some_iff.mp e).1
    refine ⟨wk.goes i w.H hi (hG w ex ok), fun x H' y => ?_⟩
    obtain ⟨rfl, fx⟩ := wk.yields i w.H x H' hi (hG w ex ok) y
    exact ⟨w, rfl, Ext.refl w, ok, rfl, hf i d x w e ex fx⟩
  stop := fun w ex ok => by
    rw [← hn]
    exact wk.stops w.H (hG w ex ok)
/-- pairs that are made turn by turn -/
theorem walks_pair {J : It} {w0 : Wd} {ds : List D} {n : Nat} {G : Hp → Prop} {f g : Nat → Option V} (wk : Walk J n G (YPair f g)) (hn : n = ds.length) (hG : ∀ w : Wd, ExtF w0 w → WOk Z.G w → G w.H)
    (hf : ∀ (i : Nat) (d : D) (x y : V) (w : Wd), ds[i]? = some d → ExtF w0 w → f i = some x → g i = some y → ∃ dx dy, d = .tup [dx, dy] ∧ RepV Z.G w.F w.M dx x ∧ RepV Z.G w.F w.M dy y) : Walks Z J w0 ds where
  go := fun i d w e ex ok => by
    have hi : i < n := by
      rw [hn]
      exact (List.getElem?_eq_some_iff.mp e).1
    refine ⟨wk.goes i w.H hi (hG w ex ok), fun v H' hy => ?_⟩
    obtain ⟨T, x, y, rfl, nT, rfl, fx, fy⟩ := wk.yields i w.H v H' hi (hG w ex ok) hy
    obtain ⟨dx, dy, rfl, rx, ry⟩ := hf i d x y w e ex fx fy
    refine ⟨w.new T (.tup [x, y]), rfl, Wd.new_ext ok.sub nT, ok.new nT (fun ps z => by cases z), rfl, rep_newT ok nT ?_⟩
    simp only [RepL]
    exact ⟨x, [y], rfl, rx, y, [], rfl, ry, rfl⟩
  stop := fun w ex ok => by
    rw [← hn]
    exact wk.stops w.H (hG w ex ok)

section
variable {tg a b : Expr} {ga gb : Env → Store → R D}
theorem i_list (ok : XOk Z X) (ha : PE X a (tG Z ga)) : PI X tg a (tI Z fun ρ S => (ga ρ S).bind fun x S1 => match x with
    | .lst xs => .ok xs S1
    | _ => .no) := by
  refine PI.imp (pi_list ha) fun σ H Rk h => ?_
  obtain ⟨ρ, w, rfl, wok, r, p⟩ := h
  refine ⟨ρ, w, rfl, wok, r, p.bind.imp fun x w1 e1 ok1 p1 v rv => ?_⟩
  cases x with
  | lst ds =>
    obtain ⟨l, vs, rfl, q, rl⟩ := rep_lst.mp rv
    refine ⟨l, rfl, ⟨vs, .of (ok1.sub _ _ q)⟩, p1 w1 (Ext.refl w1) ok1 rfl _ ?_⟩
    refine walks_same (walk_list (K := X.K) (a := l) (xs := vs)) rl.length.symm (fun w ex wk => .of (wk.sub _ _ (ex.1 _ _ q))) fun i d x w e ex fx => ?_
    obtain ⟨v, e2, rv⟩ := rl.get e
    rw [e2] at fx
    cases fx
    exact rv.mono ex.1 ex.2
  | _ => exact p1.elim
theorem i_tup (ok : XOk Z X) (ha : PE X a (tG Z ga)) : PI X tg a (tI Z fun ρ S => (ga ρ S).bind fun x S1 => match x with
    | .tup xs => .ok xs S1
    | _ => .no) := by
  refine PI.imp (pi_tup ha) fun σ H Rk h => ?_
  obtain ⟨ρ, w, rfl, wok, r, p⟩ := h
  refine ⟨ρ, w, rfl, wok, r, p.bind.imp fun x w1 e1 ok1 p1 v rv => ?_⟩
  cases x with
  | tup ds =>
    obtain ⟨l, vs, rfl, q, rl⟩ := rep_tup.mp rv
    refine ⟨l, rfl, ⟨vs, by rw [ok.hK]; exact ok1.sub.sqT q⟩, p1 w1 (Ext.refl w1) ok1 rfl _ ?_⟩
    refine walks_same (walk_tup (K := X.K) (a := l) (xs := vs)) rl.length.symm (fun w ex wk => by rw [ok.hK]; exact wk.sub.sqT (ex.1.sqT q)) fun i d x w e ex fx => ?_
    obtain ⟨v, e2, rv⟩ := rl.get e
    rw [e2] at fx
    cases fx
    exact rv.mono ex.1 ex.2
  | _ => exact p1.elim
theorem signsOf_get {s : List Nat} {i : Nat} {d : D} (h : (signsOf s)[i]? = some d) : ∃ c, s[i]? = some c ∧ d = .str [c] := by
  unfold signsOf at h
  rw [List.getElem?_map] at h
  obtain ⟨c, e, rfl⟩ := Option.map_eq_some_iff.mp h
  exact ⟨c, e, rfl⟩
theorem i_str (ok : XOk Z X) (ha : PE X a (tG Z ga)) : PI X tg a (tI Z fun ρ S => (ga ρ S).bind fun x S1 => match x with
    | .str s => .ok (signsOf s) S1
    | _ => .no) := by
  refine PI.imp (pi_str ha) fun σ H Rk h => ?_
  obtain ⟨ρ, w, rfl, wok, r, p⟩ := h
  refine ⟨ρ, w, rfl, wok, r, p.bind.imp fun x w1 e1 ok1 p1 v rv => ?_⟩
  cases x with
  | str t =>
    rw [rep_str] at rv
    subst rv
    refine ⟨strV t, rfl, p1 w1 (Ext.refl w1) ok1 rfl _ ?_⟩
    refine walks_same (walk_str (z := strV t)) (by simp [strV, signsOf]) (fun _ _ _ => True.intro) fun i d x w e ex fx => ?_
    obtain ⟨c, e2, rfl⟩ := signsOf_get e
    obtain ⟨c', e3, rfl⟩ := fx
    have e4 : (strV t).cps[i]? = t[i]? := by simp [strV]
    rw [e4, e2] at e3
    cases e3
    exact rep_str.mpr rfl
  | _ => exact p1.elim
theorem upto_get {a : Int} {n i : Nat} {d : D} (h : (upto a n)[i]? = some d) : i < n ∧ d = .int (a + (i : Nat)) := by
  unfold upto at h
  rw [List.getElem?_map] at h
  obtain ⟨c, e, rfl⟩ := Option.map_eq_some_iff.mp h
  obtain ⟨h1, h2⟩ := List.getElem?_eq_some_iff.mp e
  simp at h1 h2
  subst h2
  exact ⟨h1, rfl⟩
theorem walks_range {lo : Int} {n : Nat} {w : Wd} : Walks Z (Itr lo n) w (upto lo n) :=
  walks_same (walk_range (lo := lo) (n := n)) (by simp [upto]) (fun _ _ _ => True.intro) fun i d x w e ex fx => by
    obtain ⟨_, rfl⟩ := upto_get e
    rw [show x = .int (lo + (i : Nat)) from fx]
    exact rep_int.mpr rfl
theorem i_rng1 {p : Pos} (ha : PE X a (tG Z ga)) (hg : Gl X "range") (hm : X.mg "range" = none) (hst : starEach [a] X.env = (false, eval a X.env) :: starEach [] X.env) :
    PI X tg (.Call (.Name "range" p) [a] [] pos) (tI Z fun ρ S => (ga ρ S).bind fun x S1 => match x with
    | .int j => if j.natAbs ≤ LIM then .ok (upto 0 j.toNat) S1 else .no
    | _ => .no) := by
  refine PI.imp (pi_range1 hg hm (pa_cons ha pa_nil hst) hst) fun σ H Rk h => ?_
  obtain ⟨ρ, w, rfl, wok, r, p⟩ := h
  refine ⟨ρ, w, rfl, wok, r, p.bind.imp fun x w1 e1 ok1 p1 v rv => ?_⟩
  cases x with
  | int j =>
    rw [rep_int] at rv
    subst rv
    dsimp only at p1
    split at p1
    · rename_i hj
      have hL : LIM = 1000000 := rfl
      exact ⟨j, rfl, by omega, by omega, p1 w1 (Ext.refl w1) ok1 rfl _ walks_range⟩
    · exact p1.elim
  | _ => exact p1.elim
theorem i_rng2 {p : Pos} (ha : PE X a (tG Z ga)) (hb : PE X b (tG Z gb)) (hg : Gl X "range") (hm : X.mg "range" = none) (hst : starEach [a, b] X.env = (false, eval a X.env) :: starEach [b] X.env) (hst2 : starEach [b] X.env = (false, eval b X.env) :: starEach [] X.env) :
    PI X tg (.Call (.Name "range" p) [a, b] [] pos) (tI Z fun ρ S => (ga ρ S).bind fun x S1 => (gb ρ S1).bind fun y S2 => match x, y with
    | .int i, .int j => if i.natAbs ≤ LIM ∧ j.natAbs ≤ LIM then .ok (upto i (j - i).toNat) S2 else .no
    | _, _ => .no) := by
  refine PI.imp (pi_range2 hg hm (pa_cons ha (pa_cons hb pa_nil hst2) hst) (by rw [hst, hst2]; rfl) hst2) fun σ H Rk h => ?_
  obtain ⟨ρ, w, rfl, wok, r, p⟩ := h
  refine ⟨ρ, w, rfl, wok, r, p.bind.imp fun x w1 e1 ok1 p1 v rv => ?_⟩
  refine ⟨ρ, w1, rfl, ok1, r.ext e1, p1.bind.imp fun y w2 e2 ok2 p2 u ru => ?_⟩
  have rv2 := rv.ext e2
  cases x <;> cases y <;> try exact p2.elim
  rename_i i j
  rw [rep_int] at rv2 ru
  subst rv2
  subst ru
  dsimp only at p2
  split at p2
  · rename_i hj
    have hL : LIM = 1000000 := rfl
    exact ⟨i, j, rfl, by omega, p2 w2 (Ext.refl w2) ok2 rfl _ walks_range⟩
  · exact p2.elim
end
end
end RB

set_option Elab.async false
set_option linter.all false
set_option maxRecDepth 100000
set_option maxHeartbeats 4000000
set_option autoImplicit false
/-! for, while, comprehensions. -/
namespace RB
open PySem PySem.Spec PyProof.Rows L2

section
variable {Z : Fm} {X : Cx} {pos : Pos} {tg iter c : Expr} {gi : Env → Store → R (List D)} {gc : Env → Store → R D} {g : Env → Store → R Fl} {body : List Stmt} {t : Tg}
theorem s_for (ok : XOk Z X) (hp : PassesOwn (model X.prog X.w) X.A X.env X.xe) (hi : PI X tg iter (tI Z gi)) (hg : PG X tg (gT Z t)) (hb : PSs X body (tS Z g)) (hs : ∀ x, foldedSetIterable iter X.env x = pure x) :
    PS X (.For tg iter body [] pos) (tS Z fun ρ S => (gi ρ S).bind fun ds S1 => loopF t g ds ρ S1) := by
  refine PS.imp (ps_for hp ok.calm hi hg hb hs) fun D σ H ⟨ρ, w, e, wok, r, e0, p⟩ => ?_
  refine ⟨ρ, w, e, wok, r, (PostS.bind (σ := σ) e0 p).imp fun ds w1 e1 ok1 ⟨e2, p1⟩ J wk => ?_⟩
  refine ⟨fun i m σ' H' => ∃ ρ' w', w'.H = H' ∧ WOk Z.G w' ∧ EnvR Z w' σ' ρ' ∧ ExtF w1 w' ∧ Ext Z.w0 w' ∧ i ≤ ds.length ∧ m = ds.length - i ∧ PostS Z w' (loopF t g (ds.drop i) ρ' w'.S) D,
    ⟨ds.length, ρ, w1, rfl, ok1, r.ext e1, ExtF.refl w1, e2, Nat.zero_le _, by simp, by simpa using p1⟩, ?_⟩
  rintro i m σ' H' ⟨ρ', w', rfl, ok', r', f', e', hle, rfl, p'⟩
  by_cases hlt : i < ds.length
  · have ed : ds.drop i = ds[i] :: ds.drop (i + 1) := List.drop_eq_getElem_cons hlt
    have eg : ds[i]? = some ds[i] := List.getElem?_eq_getElem hlt
    obtain ⟨go, yl⟩ := wk.go i ds[i] w' eg f' ok'
    refine .inr ⟨go, fun σ2 H2 => ∃ ρ' w', w'.H = H2 ∧ WOk Z.G w' ∧ EnvR Z w' σ2 ρ' ∧ ExtF w1 w' ∧ Ext Z.w0 w' ∧ PostS Z w' (loopF t g (ds.drop (i + 1)) ρ' w'.S) D,
      fun σ2 H2 ⟨ρ2, w2, a1, a2, a3, a4, a5, a6⟩ => ⟨ds.length - (i + 1), by omega, ρ2, w2, a1, a2, a3, a4, a5, hlt, rfl, a6⟩, fun x H2 hy => ?_⟩
    obtain ⟨w2, rfl, x2, ok2, s2, rx⟩ := yl x H2 hy
    rw [ed] at p'
    unfold loopF at p'
    cases es : setT t ds[i] ρ' with
    | none => rw [es] at p'; exact p'.elim
    | some ρ1 =>
      rw [es] at p'
      dsimp only at p'
      refine ⟨ρ', w2, ds[i], ρ1, rfl, ok2, r'.ext x2, rx, es, fun σ3 r3 _ => ?_⟩
      refine ⟨ρ1, w2, rfl, ok2, r3, e'.trans x2, ?_⟩
      rw [s2]
      cases eg : g ρ1 w'.S with
      | no => rw [eg] at p'; exact p'.elim
      | ex c vs S' => rw [eg] at p'; exact p'
      | ok f S1 =>
        rw [eg] at p'
        cases f with
        | rt d => exact p'
        | nx ρ2 =>
          intro σ4 w4 f4 e4 ok4 s4 r4
          subst s4
          exact ⟨ρ2, w4, rfl, ok4, r4, (f'.trans x2.toF).trans f4, e4, PostS.ext p' (x2.toF.trans f4)⟩
  · have ei : i = ds.length := by omega
    subst ei
    refine .inl ⟨wk.stop w' f' ok', ?_⟩
    rw [List.drop_length] at p'
    exact p' σ' w' (ExtF.refl w') e' ok' rfl r'

theorem s_while (ok : XOk Z X) (hp : PassesOwn (model X.prog X.w) X.A X.env X.xe) (hc : PT X c (tGT Z gc)) (hb : PSs X body (tS Z g)) (n : Nat) :
    PS X (.While c body [] pos) (tS Z fun ρ S => loopW (fun ρ' S' => (gc ρ' S').bind toBl) g n ρ S) := by
  refine PS.imp (ps_while hp hc hb) fun D σ H ⟨ρ, w, e, wok, r, e0, p⟩ => ?_
  refine ⟨fun m σ' H' => ∃ ρ' w', w'.H = H' ∧ WOk Z.G w' ∧ EnvR Z w' σ' ρ' ∧ Ext Z.w0 w' ∧ PostS Z w' (loopW (fun ρ' S' => (gc ρ' S').bind toBl) g m ρ' w'.S) D, ⟨n, ρ, w, e, wok, r, e0, p⟩, ?_⟩
  rintro m σ' H' ⟨ρ', w', rfl, ok', r', e', p'⟩
  cases m with
  | zero => exact p'.elim
  | succ m =>
    unfold loopW at p'
    refine ⟨ρ', w', rfl, ok', r', (PostS.bind (σ := σ') e' p').imp fun b w1 e1 ok1 ⟨e2, p1⟩ => ?_⟩
    cases b with
    | false =>
      rw [if_neg Bool.false_ne_true] at p1 ⊢
      exact p1 σ' w1 (ExtF.refl w1) e2 ok1 rfl (r'.ext e1)
    | true =>
      rw [if_pos rfl] at p1 ⊢
      refine ⟨fun σ2 H2 => ∃ ρ' w', w'.H = H2 ∧ WOk Z.G w' ∧ EnvR Z w' σ2 ρ' ∧ Ext Z.w0 w' ∧ PostS Z w' (loopW (fun ρ' S' => (gc ρ' S').bind toBl) g m ρ' w'.S) D, fun σ2 H2 h => ⟨m, Nat.lt_succ_self m, h⟩, ρ', w1, rfl, ok1, r'.ext e1, e2, ?_⟩
      cases eg : g ρ' w1.S with
      | no => rw [eg] at p1; exact p1.elim
      | ex c vs S' => rw [eg] at p1; exact p1
      | ok f S1 =>
        rw [eg] at p1
        cases f with
        | rt d => exact p1
        | nx ρ2 =>
          intro σ4 w4 f4 e4 ok4 s4 r4
          subst s4
          exact ⟨ρ2, w4, rfl, ok4, r4, e4, PostS.ext p1 f4⟩
end

/-! ### a list in the making -/
/-- the heap is changed at a list that is not frozen and not of the store -/
theorem WOk.put {G : Hd} {w : Wd} (ok : WOk G w) {p : Addr} {xs ys : List V} (h : w.H p = some (.lst xs)) (f : w.F p = none) (m : p ∉ w.M) : WOk G { w with H := upd w.H p (.lst ys) } where
  sub := fun a o e => by
    show upd w.H p _ a = _
    have hne : a ≠ p := by
      rintro rfl
      have e' : w.F a = some o := e
      rw [f] at e'
      cases e'
    rw [upd_ne hne]
    exact ok.sub a o e
  nd := ok.nd
  len := ok.len
  st := fun n a so e1 e2 => by
    obtain ⟨g1, g2⟩ := ok.st n a so e1 e2
    have hne : a ≠ p := by
      rintro rfl
      exact m (List.mem_of_getElem? e1)
    refine ⟨g1, ?_⟩
    cases so with
    | lst ds =>
      obtain ⟨us, q1, q2⟩ := g2
      exact ⟨us, by show upd w.H p _ a = _; rw [upd_ne hne]; exact q1, q2⟩
    | ins _ _ => exact g2.elim
  tab := fun q hq => by
    obtain ⟨ps, e1, e2, e3⟩ := ok.tab q hq
    have hne : q.1 ≠ p := by
      intro z
      rw [z, h] at e1
      cases e1
    refine ⟨ps, by show upd w.H p _ q.1 = _; rw [upd_ne hne]; exact e1, e2, fun po cv hc => ?_⟩
    obtain ⟨c, e4, e5⟩ := e3 po cv hc
    refine ⟨c, e4, ?_⟩
    have hne2 : c ≠ p := by
      intro z
      rw [z, h] at e5
      cases e5
    show upd w.H p _ c = _
    rw [upd_ne hne2]
    exact e5
  ntb := ok.ntb
theorem wipe_wipeE : ∀ (vs : List Nat) {Z : Fm} {w : Wd} {σ : Sl} {ρ : Env}, EnvR Z w σ ρ → EnvR Z w (wipe σ vs) (wipeE ρ vs)
  | [], _, _, _, _, r => r
  | v :: vs, Z, w, σ, ρ, r => by
    have ih := wipe_wipeE vs r
    show EnvR Z w ((wipe σ vs).set v none) ((wipeE ρ vs).set v none)
    have none_of : ∀ {j d}, getV ((wipeE ρ vs).set v none) j = some d → j ≠ v ∧ getV (wipeE ρ vs) j = some d := fun {j d} h => by
      by_cases hj : v = j
      · subst hj
        unfold getV at h
        by_cases hl : v < (wipeE ρ vs).length
        · rw [List.getElem?_set_self hl] at h
          cases h
        · rw [List.getElem?_eq_none (by simpa using hl)] at h
          cases h
      · rw [getV_set_ne hj] at h
        exact ⟨Ne.symm hj, h⟩
    refine ⟨by simp [ih.len], fun j d h => ?_, fun j k d e p hj hk h1 h2 h3 h4 => ?_⟩
    · obtain ⟨hj, h⟩ := none_of h
      obtain ⟨u, e1, a, b⟩ := ih.val j d h
      exact ⟨u, by rw [List.getElem?_set_ne (Ne.symm hj)]; exact e1, a, b⟩
    · obtain ⟨n1, h1⟩ := none_of h1
      obtain ⟨n2, h2⟩ := none_of h2
      rw [List.getElem?_set_ne (Ne.symm n1)] at h3
      rw [List.getElem?_set_ne (Ne.symm n2)] at h4
      exact ih.dis j k d e p hj hk h1 h2 h3 h4
theorem wipe_get : ∀ {vs : List Nat} {σ : Sl} {j : Nat}, j ∉ vs → (wipe σ vs)[j]? = σ[j]?
  | [], _, _, _ => rfl
  | v :: vs, σ, j, h => by
    have h1 : j ≠ v := fun z => h (by rw [z]; exact List.mem_cons_self)
    have h2 : j ∉ vs := fun z => h (List.mem_cons_of_mem _ z)
    show ((wipe σ vs).set v none)[j]? = _
    rw [List.getElem?_set_ne (Ne.symm h1), wipe_get h2]
theorem wipe_in : ∀ {vs : List Nat} {σ : Sl} {j : Nat}, j ∈ vs → j < σ.length → (wipe σ vs)[j]? = some none
  | v :: vs, σ, j, h, hl => by
    show ((wipe σ vs).set v none)[j]? = _
    by_cases e : j = v
    · subst e
      rw [List.getElem?_set_self (by rw [wipe_length]; exact hl)]
    · rw [List.getElem?_set_ne (Ne.symm e)]
      exact wipe_in (by simpa [e] using h) hl
theorem wipe_same {σ σ' : Sl} {vs : List Nat} (s : Same (wipe σ vs) σ' vs) : wipe σ' vs = wipe σ vs := by
  have hl : σ'.length = σ.length := by rw [s.1, wipe_length]
  apply List.ext_getElem?
  intro j
  by_cases h : j ∈ vs
  · by_cases hj : j < σ.length
    · rw [wipe_in h hj, wipe_in h (by rw [hl]; exact hj)]
    · rw [List.getElem?_eq_none (by rw [wipe_length, hl]; omega), List.getElem?_eq_none (by rw [wipe_length]; omega)]
  · rw [wipe_get h, s.2 j h]

/-- within a comprehension nothing may be raised -/
abbrev Fm.quiet (Z : Fm) : Fm := { Z with Wx := fun _ _ _ _ => False }
theorem EnvR.quiet {Z : Fm} {w : Wd} {σ : Sl} {ρ : Env} (r : EnvR Z w σ ρ) : EnvR Z.quiet w σ ρ := by
  refine ⟨r.len, fun i d h => ?_, r.dis⟩
  obtain ⟨v, e, a, b⟩ := r.val i d h
  refine ⟨v, e, fun hi => ?_, b⟩
  have := a hi
  cases d with
  | lst ds => exact this
  | clo _ _ => exact this
  | _ => exact this.elim
theorem EnvR.loud {Z : Fm} {w : Wd} {σ : Sl} {ρ : Env} (r : EnvR Z.quiet w σ ρ) : EnvR Z w σ ρ := by
  refine ⟨r.len, fun i d h => ?_, r.dis⟩
  obtain ⟨v, e, a, b⟩ := r.val i d h
  refine ⟨v, e, fun hi => ?_, b⟩
  have := a hi
  cases d with
  | lst ds => exact this
  | clo _ _ => exact this
  | _ => exact this.elim
theorem Post.quiet {α : Type} {Z : Fm} {σ σ' : Sl} {w : Wd} {r : R α} {Q : α → Wd → Prop} (p : Post Z σ w (noEx r) Q) : Post Z.quiet σ' w r Q := by
  cases r with
  | ok d S' => exact p
  | ex c vs S' => exact p.elim
  | no => exact p.elim
end RB

set_option Elab.async false
set_option linter.all false
set_option maxRecDepth 100000
set_option maxHeartbeats 4000000
set_option autoImplicit false
/-! Comprehensions. -/
namespace RB
open PySem PySem.Spec PyProof.Rows L2

/-- what is wanted behind a comprehension, acc of it made -/
def PostC (Z : Fm) (w1 : Wd) (r : R (List D)) (acc : List D) (Q : VK) : Prop := match r with
  | .ok r S' => (acc ++ r).length ≤ LIM ∧ ∀ w' v, Ext w1 w' → WOk Z.G w' → w'.S = S' → RepV Z.G w'.F w'.M (.lst (acc ++ r)) v → Q v w'.H
  | .ex _ _ _ => False
  | .no => False
theorem comp_noEx {t : Tg} {f : Env → Store → R (Option D)} : ∀ {ds : List D} {ρ : Env} {S : Store} {c : Nat} {vs : List D} {S' : Store}, comp t f ds ρ S ≠ .ex c vs S'
  | [], ρ, S, c, vs, S', h => by simp [comp] at h
  | d :: ds, ρ, S, c, vs, S', h => by
    unfold comp at h
    cases es : setT t d ρ with
    | none => rw [es] at h; cases h
    | some ρ1 =>
      rw [es] at h
      dsimp only at h
      cases ef : f ρ1 S with
      | no => rw [ef] at h; cases h
      | ex _ _ _ => rw [ef] at h; cases h
      | ok o S1 =>
        rw [ef, noEx_ok, bind_ok] at h
        cases er : comp t f ds ρ S1 with
        | no => rw [er] at h; cases h
        | ex _ _ _ => exact comp_noEx er
        | ok r S2 => rw [er] at h; cases h

section
variable {Z : Fm} {X : Cx} {pos : Pos}
theorem pts_true : PTs X [] (tGT Z fun _ S => .ok (.bl true) S) :=
  ⟨fun pins s σ H Q I h => pts_nil.run pins s σ H Q I (by
    obtain ⟨ρ, w, e, ok, r, p⟩ := h
    rw [← e]
    exact p w (Ext.refl w) ok rfl)⟩
/-- the frozen end of a list in the making -/
theorem WOk.seal {G : Hd} {w : Wd} (ok : WOk G w) {p : Addr} {vs : List V} (h : w.H p = some (.lst vs)) (f : w.F p = none) (m : p ∉ w.M) : WOk G { w with F := upd w.F p (.lst vs) } where
  sub := fun a o e => by
    have e' : upd w.F p (.lst vs) a = some o := e
    by_cases z : a = p
    · subst z
      rw [upd_same] at e'
      cases e'
      exact h
    · rw [upd_ne z] at e'
      exact ok.sub _ _ e'
  nd := ok.nd
  len := ok.len
  st := fun n a so e1 e2 => by
    have hs : Sub w.F (upd w.F p (.lst vs)) := fun a o e => by
      rw [upd_ne (ne_of_none e f)]
      exact e
    obtain ⟨g1, g2⟩ := ok.st n a so e1 e2
    have hne : a ≠ p := by
      rintro rfl
      exact m (List.mem_of_getElem? e1)
    refine ⟨by show upd w.F p _ a = none; rw [upd_ne hne]; exact g1, ?_⟩
    cases so with
    | lst ds =>
      obtain ⟨us, q1, q2⟩ := g2
      exact ⟨us, q1, q2.mono hs ⟨[], by simp⟩⟩
    | ins _ _ => exact g2.elim
  tab := ok.tab
  ntb := fun a ps e => by
    have e' : upd w.F p (.lst vs) a = some (.tbl ps) := e
    by_cases z : a = p
    · subst z
      rw [upd_same] at e'
      cases e'
    · rw [upd_ne z] at e'
      exact ok.ntb _ _ e'

theorem comp_reading {t : Tg} {gi : Env → Store → R (List D)} {gc ge : Env → Store → R D} {σ : Sl} {H : Hp} {Q : VK}
    (h : tG Z (fun ρ S => (gi ρ S).bind fun ds S1 => (comp t (compF gc ge) ds (wipeE ρ (slotsT t)) S1).bind fun r S2 => if r.length ≤ LIM then .ok (.lst r) S2 else .no) σ H Q) :
    tLc (tI Z gi) (gT Z.quiet t) (tGT Z.quiet gc) (tG Z.quiet ge) (slotsT t) σ H Q := by
  obtain ⟨ρ, w0, rfl, ok0, r0, p0⟩ := h
  refine ⟨ρ, w0, rfl, ok0, r0, p0.bind.imp fun ds w1 e1 ok1 p1 J wk L0 nD => ?_⟩
  have rr := wipe_wipeE (slotsT t) (r0.ext e1)
  have start : PostC Z w1 (comp t (compF gc ge) ds (wipeE ρ (slotsT t)) w1.S) [] Q := by
    cases ec : comp t (compF gc ge) ds (wipeE ρ (slotsT t)) w1.S with
    | no => rw [ec] at p1; exact p1.elim
    | ex c vs S' => exact absurd ec comp_noEx
    | ok r S2 =>
      rw [ec, bind_ok] at p1
      split at p1
      · rename_i hl
        exact ⟨by simpa using hl, fun w' v a1 a2 a3 a4 => p1 w' a1 a2 a3 v (by simpa using a4)⟩
      · exact p1.elim
  -- the world with the new list
  have ok1' : WOk Z.G { w1 with H := upd w1.H L0 (.lst []) } := by
    have := (ok1.new (o := .lst []) nD (fun ps z => by cases z))
    refine ⟨fun a o e => ?_, ok1.nd, ok1.len, fun n a so q1 q2 => ?_, this.tab, ok1.ntb⟩
    · show upd w1.H L0 _ a = _
      rw [upd_ne (ne_of_none (ok1.sub a o e) nD)]
      exact ok1.sub a o e
    · obtain ⟨g1, g2⟩ := ok1.st n a so q1 q2
      refine ⟨g1, ?_⟩
      cases so with
      | lst ds =>
        obtain ⟨us, q3, q4⟩ := g2
        exact ⟨us, by show upd w1.H L0 _ a = _; rw [upd_ne (ne_of_none q3 nD)]; exact q3, q4⟩
      | ins _ _ => exact g2.elim
  have x1 : Ext w1 { w1 with H := upd w1.H L0 (.lst []) } := by
    refine ⟨Sub.refl _, fun _ _ => rfl, fun a o e _ _ => ?_, fun a ha => ?_, [], by simp, by simp⟩
    · show upd w1.H L0 _ a = _
      rw [upd_ne (ne_of_none e nD)]
      exact e
    · show upd w1.H L0 _ a ≠ none
      by_cases z : a = L0
      · rw [z, upd_same]
        simp
      · rw [upd_ne z]
        exact ha
  have mD : L0 ∉ w1.M := fun z => by
    obtain ⟨n, hn⟩ := List.getElem?_of_mem z
    obtain ⟨hl, _⟩ := List.getElem?_eq_some_iff.mp hn
    obtain ⟨so, hs⟩ : ∃ so, w1.S[n]? = some so := ⟨_, List.getElem?_eq_getElem (by rw [← ok1.len]; exact hl)⟩
    obtain ⟨_, g2⟩ := ok1.st n L0 so hn hs
    cases so with
    | lst ds =>
      obtain ⟨us, q, _⟩ := g2
      rw [nD] at q
      cases q
    | ins _ _ => exact g2.elim
  refine ⟨fun i m H' => ∃ w acc us, w.H = H' ∧ WOk Z.G w ∧ EnvR Z w (wipe σ (slotsT t)) (wipeE ρ (slotsT t)) ∧ Ext w1 w ∧ w.H L0 = some (.lst us) ∧ w.F L0 = none ∧ L0 ∉ w.M ∧ RepL Z.G w.F w.M acc us ∧ i ≤ ds.length ∧ m = ds.length - i ∧
      PostC Z w1 (comp t (compF gc ge) (ds.drop i) (wipeE ρ (slotsT t)) w.S) acc Q,
    ⟨ds.length, { w1 with H := upd w1.H L0 (.lst []) }, [], [], rfl, ok1', rr.ext x1, x1, upd_same, none_of_sub ok1.sub nD, mD, by simp only [RepL], Nat.zero_le _, by simp, by simpa using start⟩, ?_⟩
  rintro i m H' ⟨w, acc, us, rfl, ok, r, x, hD, fD, nM, l, hle, rfl, p⟩
  have stay : ∀ {w2 : Wd}, Ext w w2 → w2.H L0 = some (.lst us) ∧ w2.F L0 = none ∧ L0 ∉ w2.M ∧ RepL Z.G w2.F w2.M acc us := fun {w2} e => by
    have hne : w.H L0 ≠ none := by rw [hD]; simp
    refine ⟨e.hs L0 _ hD nM (fun ps z => by cases z), (e.fn L0 hne).trans fD, fun z => ?_, l.ext e⟩
    obtain ⟨more, hm, nn⟩ := e.ms
    rw [hm] at z
    rcases List.mem_append.mp z with z | z
    · exact nM z
    · exact hne (nn L0 z)
  by_cases hlt : i < ds.length
  · have ed : ds.drop i = ds[i] :: ds.drop (i + 1) := List.drop_eq_getElem_cons hlt
    have eg : ds[i]? = some ds[i] := List.getElem?_eq_getElem hlt
    obtain ⟨go, yl⟩ := wk.go i ds[i] w eg x.toF ok
    refine .inr ⟨go, fun H2 => ∃ w acc us, w.H = H2 ∧ WOk Z.G w ∧ EnvR Z w (wipe σ (slotsT t)) (wipeE ρ (slotsT t)) ∧ Ext w1 w ∧ w.H L0 = some (.lst us) ∧ w.F L0 = none ∧ L0 ∉ w.M ∧ RepL Z.G w.F w.M acc us ∧
      PostC Z w1 (comp t (compF gc ge) (ds.drop (i + 1)) (wipeE ρ (slotsT t)) w.S) acc Q,
      fun H2 ⟨w, acc, us, a1, a2, a3, a4, a5, a6, a7, a8, a9⟩ => ⟨ds.length - (i + 1), by omega, w, acc, us, a1, a2, a3, a4, a5, a6, a7, a8, hlt, rfl, a9⟩, fun y H2 hy => ?_⟩
    obtain ⟨w2, rfl, x2, ok2, s2, ry⟩ := yl y H2 hy
    rw [ed] at p
    unfold comp at p
    cases es : setT t ds[i] (wipeE ρ (slotsT t)) with
    | none => rw [es] at p; exact p.elim
    | some ρ1 =>
      rw [es] at p
      dsimp only at p
      have r2 : EnvR Z.quiet w2 (wipe σ (slotsT t)) (wipeE ρ (slotsT t)) := (r.ext x2).quiet
      refine ⟨wipeE ρ (slotsT t), w2, ds[i], ρ1, rfl, ok2, r2, ry, es, fun σ3 r3 sm => ⟨wipe_same sm, ?_⟩⟩
      refine ⟨ρ1, w2, rfl, ok2, r3, ?_⟩
      rw [s2]
      -- the test
      have pq : Post Z.quiet σ3 w2 (compF gc ge ρ1 w.S) fun o w3 => PostC Z w1 ((comp t (compF gc ge) (ds.drop (i + 1)) (wipeE ρ (slotsT t)) w3.S).bind fun r S2 => .ok (o.toList ++ r) S2) acc Q := by
        cases ef : compF gc ge ρ1 w.S with
        | no => rw [ef] at p; exact p.elim
        | ex c vs S' => rw [ef] at p; exact p.elim
        | ok o S1 =>
          rw [ef, noEx_ok, bind_ok] at p
          intro w3 e3 ok3 s3
          subst s3
          exact p
      unfold compF at pq
      have pq2 : Post Z.quiet σ3 w2 ((gc ρ1 w.S).bind toBl) fun b w3 => Post Z.quiet σ3 w3 (if b then (ge ρ1 w3.S).bind fun d S4 => .ok (some d) S4 else .ok none w3.S) fun o w4 => PostC Z w1 ((comp t (compF gc ge) (ds.drop (i + 1)) (wipeE ρ (slotsT t)) w4.S).bind fun r S2 => .ok (o.toList ++ r) S2) acc Q := by
        cases ec : gc ρ1 w.S with
        | no => rw [ec] at pq; exact pq.elim
        | ex c vs S' => rw [ec] at pq; exact pq
        | ok b S1 =>
          rw [ec, bind_ok] at pq
          rw [bind_ok]
          exact pq.bind
      refine pq2.imp fun b w3 e3 ok3 p3 => ?_
      dsimp only
      have st3 := stay (x2.trans e3)
      have cont : ∀ {w4 : Wd} {acc' : List D} {us' : List V} {o : Option D}, WOk Z.G w4 → Ext w1 w4 → ExtF w w4 → w4.H L0 = some (.lst us') → w4.F L0 = none → L0 ∉ w4.M → RepL Z.G w4.F w4.M acc' us' → acc' = acc ++ o.toList → EnvR Z w4 (wipe σ (slotsT t)) (wipeE ρ (slotsT t)) →
          PostC Z w1 ((comp t (compF gc ge) (ds.drop (i + 1)) (wipeE ρ (slotsT t)) w4.S).bind fun r S2 => .ok (o.toList ++ r) S2) acc Q →
          ∃ w acc us, w.H = w4.H ∧ WOk Z.G w ∧ EnvR Z w (wipe σ (slotsT t)) (wipeE ρ (slotsT t)) ∧ Ext w1 w ∧ w.H L0 = some (.lst us) ∧ w.F L0 = none ∧ L0 ∉ w.M ∧ RepL Z.G w.F w.M acc us ∧ PostC Z w1 (comp t (compF gc ge) (ds.drop (i + 1)) (wipeE ρ (slotsT t)) w.S) acc Q := by
        intro w4 acc' us' o k1 k2 k3 k4 k5 k6 k7 k8 k9 k10
        refine ⟨w4, acc', us', rfl, k1, k9, k2, k4, k5, k6, k7, ?_⟩
        cases ec : comp t (compF gc ge) (ds.drop (i + 1)) (wipeE ρ (slotsT t)) w4.S with
        | no => rw [ec] at k10; exact k10.elim
        | ex c vs S' => rw [ec] at k10; exact k10.elim
        | ok rs S5 =>
          rw [ec, bind_ok] at k10
          obtain ⟨m1, m2⟩ := k10
          subst k8
          refine ⟨by simpa using m1, fun w' v b1 b2 b3 b4 => m2 w' v b1 b2 b3 (by simpa using b4)⟩
      cases b with
      | false =>
        rw [if_neg Bool.false_ne_true] at p3 ⊢
        have p4 := p3 w3 (Ext.refl w3) ok3 rfl
        obtain ⟨a1, a2, a3, a4⟩ := st3
        exact cont (o := none) ok3 (x.trans (x2.trans e3)) (x2.trans e3).toF a1 a2 a3 a4 (by simp) (r.ext (x2.trans e3)) p4
      | true =>
        rw [if_pos rfl] at p3 ⊢
        refine ⟨ρ1, w3, rfl, ok3, r3.ext e3, p3.bind.imp fun d w4 e4 ok4 p4 v rv => ?_⟩
        have p5 := p4 w4 (Ext.refl w4) ok4 rfl
        dsimp only at p5
        obtain ⟨a1, a2, a3, a4⟩ := stay ((x2.trans e3).trans e4)
        have hlen : acc.length + 1 ≤ LIM := by
          cases ec : comp t (compF gc ge) (ds.drop (i + 1)) (wipeE ρ (slotsT t)) w4.S with
          | no => rw [ec] at p5; exact p5.elim
          | ex c vs S' => rw [ec] at p5; exact p5.elim
          | ok rs S5 =>
            rw [ec, bind_ok] at p5
            have := p5.1
            simp at this
            omega
        refine ⟨us, a1, ?_, ?_⟩
        · rw [← a4.length]
          exact lim_lt (by omega)
        · have xx : Ext w w4 := (x2.trans e3).trans e4
          have okp := ok4.put (ys := us ++ [v]) a1 a2 a3
          have xp : Ext w1 { w4 with H := upd w4.H L0 (.lst (us ++ [v])) } := by
            have y := x.trans xx
            refine ⟨y.fs, y.fn, fun a o e nm nt => ?_, fun a ha => ?_, y.ms⟩
            · show upd w4.H L0 _ a = _
              rw [upd_ne (ne_of_none e nD)]
              exact y.hs a o e nm nt
            · show upd w4.H L0 _ a ≠ none
              by_cases z : a = L0
              · rw [z, upd_same]
                simp
              · rw [upd_ne z]
                exact y.hn a ha
          have rp : EnvR Z { w4 with H := upd w4.H L0 (.lst (us ++ [v])) } (wipe σ (slotsT t)) (wipeE ρ (slotsT t)) := by
            have r4 := r.ext xx
            refine ⟨r4.len, fun j e h => ?_, r4.dis⟩
            obtain ⟨u, h1, h2, h3⟩ := r4.val j e h
            refine ⟨u, h1, fun hj => ?_, h3⟩
            have o := h2 hj
            have o1 := (r0.ext e1)
            cases e with
            | lst es' =>
              obtain ⟨p, ws, rfl, q1, q2, q3, q4, q5⟩ := o
              have hpD : p ≠ L0 := by
                rintro rfl
                -- an own list stood ahead of the new one
                have hj2 : getV ρ j = some (.lst es') := by
                  have : ∀ (vs : List Nat) (d : D), getV (wipeE ρ vs) j = some d → getV ρ j = some d := by
                    intro vs
                    induction vs with
                    | nil => exact fun d h => h
                    | cons v vs ih =>
                      intro d h
                      refine ih d ?_
                      by_cases hv : v = j
                      · subst hv
                        unfold getV at h
                        have : ((wipeE ρ vs).set v none)[v]? = some none ∨ ((wipeE ρ vs).set v none)[v]? = none := by
                          by_cases hl : v < (wipeE ρ vs).length
                          · exact .inl (List.getElem?_set_self hl)
                          · exact .inr (List.getElem?_eq_none (by simpa using hl))
                        rw [show wipeE ρ (v :: vs) = (wipeE ρ vs).set v none from rfl] at h
                        rcases this with z | z <;> rw [z] at h <;> cases h
                      · rwa [show wipeE ρ (v :: vs) = (wipeE ρ vs).set v none from rfl, getV_set_ne hv] at h
                  exact this _ _ h
                obtain ⟨u1, g1, g2, _⟩ := o1.val j _ hj2
                obtain ⟨p', ws', rfl, _, _, _, g5, _⟩ := g2 hj
                have : (wipe σ (slotsT t))[j]? = some (some (.ref p')) ∨ (wipe σ (slotsT t))[j]? = some none := by
                  by_cases hm : j ∈ slotsT t
                  · exact .inr (wipe_in hm (List.getElem?_eq_some_iff.mp g1).1)
                  · exact .inl (by rw [wipe_get hm]; exact g1)
                rcases this with z | z
                · rw [z] at h1
                  cases h1
                  rw [nD] at g5
                  cases g5
                · rw [z] at h1
                  cases h1
              exact ⟨p, ws, rfl, q1, q2, q3, by show upd w4.H L0 _ p = _; rw [upd_ne hpD]; exact q4, q5⟩
            | clo _ _ =>
              obtain ⟨p, ws, Ls, rfl, q1, qk, q2⟩ := o
              exact ⟨p, ws, Ls, rfl, q1, qk, q2.put a1⟩
            | _ => exact o.elim
          exact cont (w4 := { w4 with H := upd w4.H L0 (.lst (us ++ [v])) }) (acc' := acc ++ [d]) (us' := us ++ [v]) (o := some d) okp xp ⟨xx.fs, xx.pre⟩ upd_same a2 a3 (a4.append (by simp only [RepL]; exact ⟨v, [], rfl, rv, rfl⟩)) (by simp) rp p5
  · have ei : i = ds.length := by omega
    subst ei
    refine .inl ⟨wk.stop w x.toF ok, ?_⟩
    rw [List.drop_length] at p
    have p' := p
    unfold comp at p'
    obtain ⟨_, k⟩ := p'
    simp only [List.append_nil] at k
    have okS := ok.seal hD fD nM
    refine k { w with F := upd w.F L0 (.lst us) } (.ref L0) ⟨?_, ?_, x.hs, x.hn, x.ms⟩ okS rfl (rep_lst.mpr ⟨L0, us, rfl, upd_same, ?_⟩)
    · exact fun a o e => by
        show upd w.F L0 _ a = _
        rw [upd_ne (ne_of_none (ok1.sub a o e) nD)]
        exact x.fs a o e
    · exact fun a ha => by
        show upd w.F L0 _ a = _
        rw [upd_ne fun z => ha (by rw [z]; exact nD)]
        exact x.fn a ha
    · exact l.mono (fun a o e => by
        show upd w.F L0 _ a = _
        rw [upd_ne (ne_of_none e fD)]
        exact e) ⟨[], by simp⟩
end
end RB

set_option Elab.async false
set_option linter.all false
set_option maxRecDepth 100000
set_option maxHeartbeats 4000000
set_option autoImplicit false
/-! Further statements. -/
namespace RB
open PySem PySem.Spec PyProof.Rows L2

section
variable {Z : Fm} {X : Cx} {a b c : Expr} {ga gb gc : Env → Store → R D} {gs : Env → Store → R (List D)} {es : List Expr} {pos : Pos}

/-! ### name op= e, a tuple of targets -/
theorem iop_ok {o : BOp} (ho : o = .add ∨ o = .sub) : OpR X (inplaceOp (opOf o)) (fun x y H Q => ∃ i j k, x = .int i ∧ y = .int j ∧ bin o (.int i) (.int j) = some k ∧ ∀ v, (∀ G F M, RepV G F M k v) → Q v H) := by
  intro pins s σ H x y v u Q I rx ry q
  obtain ⟨i, j, k, rfl, rfl, e, q⟩ := q
  rcases ho with rfl | rfl
  · cases e
    exact iop_add pins s σ H _ _ v u Q I rx ry ⟨i, j, rfl, rfl, q _ fun _ _ _ => rep_int.mpr rfl⟩
  · cases e
    exact iop_sub pins s σ H _ _ v u Q I rx ry ⟨i, j, rfl, rfl, q _ fun _ _ _ => rep_int.mpr rfl⟩
theorem ip_of {op : Operator} {r : R2} (h : OpR X (inplaceOp op) r) : PIp X op (fun x y H Q => r x y H Q) := fun pins s σ H x y v u Q I rx ry q => h pins s σ H x y v u Q I rx ry q
theorem s_aug {i : Nat} {x : Str} {e : Expr} {o : BOp} {pos' : Pos} (ok : XOk Z X) (ho' : o = .add ∨ o = .sub) (hi : X.N[i]? = some x) (hx : Loc X.env.scope x) (he : PE X e (tG Z ga)) (hf : X.fn x = true ∨ X.env.scope.names.lookup x = some .local) (ho : i ∉ Z.O) :
    PS X (.AugAssign (.Name x pos') (opOf o) e pos) (tS Z fun ρ S => match getV ρ i with
      | none => .no
      | some x => (ga ρ S).bind fun y S1 => match x, y with
        | .int i1, .int j1 => (R.of (bin o (.int i1) (.int j1)) S1).bind fun z S2 => setI ρ i z S2
        | _, _ => .no) := by
  refine PS.imp (ps_aug ok.nd hi hx he (ip_of (iop_ok (X := X) ho')) hf) fun D σ H ⟨ρ, w, e, wok, r, e0, p⟩ => ?_
  dsimp only at p
  cases eg : getV ρ i with
  | none => rw [eg] at p; exact p.elim
  | some d =>
    rw [eg] at p
    obtain ⟨v, e1, _, q⟩ := r.val i d eg
    refine ⟨v, e1, ρ, w, e, wok, r, (PostS.bind (σ := σ) e0 p).imp fun y w1 x1 ok1 ⟨e2, p1⟩ u ru => ?_⟩
    have rv := (q ho).ext x1
    cases d with
    | int i1 =>
      cases y with
      | int j1 =>
        dsimp only at p1
        rw [rep_int] at rv ru
        cases eb : bin o (.int i1) (.int j1) with
        | none => rw [eb] at p1; exact p1.elim
        | some k =>
          rw [eb, of_some, bind_ok] at p1
          refine ⟨i1, j1, k, rv, ru, eb, fun v' hv' => ?_⟩
          unfold setI at p1
          split at p1
          · rename_i hl
            exact p1 _ w1 (ExtF.refl w1) e2 ok1 rfl ((r.ext x1).set hl ho (hv' _ _ _))
          · exact p1.elim
      | _ => exact p1.elim
    | _ => exact p1.elim
theorem s_asgT {tg e : Expr} {t : Tg} (he : PE X e (tG Z ga)) (hg : PG X tg (gT Z t)) (hs : swapsWithSole [tg] e pos.line X.env = pure false) (hw : swappedStores [tg] e X.env = pure none)
    (h1 : (assignEach [tg] X.env).map (·.2) = [assign tg X.env]) : PS X (.Assign [tg] e pos) (tS Z fun ρ S => (ga ρ S).bind fun d S1 => (R.of (setT t d ρ) S1).bind fun ρ1 S2 => .ok (.nx ρ1) S2) := by
  refine PS.imp (ps_asg he hg hs hw h1) fun D σ H ⟨ρ, w, e, wok, r, e0, p⟩ => ?_
  refine ⟨ρ, w, e, wok, r, (PostS.bind (σ := σ) e0 p).imp fun d w1 x1 ok1 ⟨e2, p1⟩ v rv => ?_⟩
  cases es : setT t d ρ with
  | none => rw [es] at p1; exact p1.elim
  | some ρ1 =>
    rw [es, of_some, bind_ok] at p1
    exact ⟨ρ, w1, d, ρ1, rfl, ok1, r.ext x1, rv, es, fun σ' r' _ => p1 σ' w1 (ExtF.refl w1) e2 ok1 rfl r'⟩
/-- a, b = x, y with plain local names -/
theorem s_par2 {i j : Nat} {x y : Str} {px py pt : Pos} {kt k2 pt2} (ok : XOk Z X) (hi : X.N[i]? = some x) (hj : X.N[j]? = some y) (hij : i ≠ j)
    (hx : X.env.scope.names.lookup x = some .local) (hy : X.env.scope.names.lookup y = some .local) (hoi : i ∉ Z.O) (hoj : j ∉ Z.O) (ha : PA X [a, b] (tGA Z gs))
    (hw : swappedStores [.Tuple [.Name x px, .Name y py] kt pt] (.Tuple [a, b] k2 pt2) X.env = pure (some [x, y]))
    (hs : swapsWithSole [.Tuple [.Name x px, .Name y py] kt pt] (.Tuple [a, b] k2 pt2) pos.line X.env = pure false) :
    PS X (.Assign [.Tuple [.Name x px, .Name y py] kt pt] (.Tuple [a, b] k2 pt2) pos) (tS Z fun ρ S => (gs ρ S).bind fun ds S1 => (R.of (setAll [i, j] ds ρ) S1).bind fun ρ1 S2 => .ok (.nx ρ1) S2) := by
  refine PS.imp (ps_par ok.calm ok.nd hi hj hij hx hy ha hw hs) fun D σ H ⟨ρ, w, e, wok, r, e0, p⟩ => ?_
  refine ⟨ρ, w, e, wok, r, (PostS.bind (σ := σ) e0 p).imp fun ds w1 x1 ok1 ⟨e2, p1⟩ vs rs => ?_⟩
  match ds, p1, rs with
  | [d1, d2], p1, rs =>
    simp only [RepL] at rs
    obtain ⟨v1, _, rfl, r1, v2, _, rfl, r2, rfl⟩ := rs
    simp only [setAll] at p1
    by_cases hl : i < ρ.length
    · rw [if_pos hl] at p1
      by_cases hl2 : j < (ρ.set i (some d1)).length
      · rw [if_pos hl2, of_some, bind_ok] at p1
        exact ⟨v1, v2, rfl, p1 _ w1 (ExtF.refl w1) e2 ok1 rfl (((r.ext x1).set hl hoi r1).set hl2 hoj r2)⟩
      · rw [if_neg hl2] at p1
        exact p1.elim
    · rw [if_neg hl] at p1
      exact p1.elim
  | [], p1, _ => exact p1.elim
  | [_], p1, _ =>
    simp only [setAll] at p1
    split at p1 <;> exact p1.elim
  | _ :: _ :: _ :: _, p1, _ =>
    simp only [setAll] at p1
    split at p1
    · split at p1 <;> exact p1.elim
    · exact p1.elim
theorem s_par3 {i j l : Nat} {x y z : Str} {px py pz pt : Pos} {kt k2 pt2} (ok : XOk Z X) (hi : X.N[i]? = some x) (hj : X.N[j]? = some y) (hl : X.N[l]? = some z) (hij : i ≠ j) (hil : i ≠ l) (hjl : j ≠ l)
    (hx : X.env.scope.names.lookup x = some .local) (hy : X.env.scope.names.lookup y = some .local) (hz : X.env.scope.names.lookup z = some .local) (hoi : i ∉ Z.O) (hoj : j ∉ Z.O) (hol : l ∉ Z.O) (ha : PA X [a, b, c] (tGA Z gs))
    (hw : swappedStores [.Tuple [.Name x px, .Name y py, .Name z pz] kt pt] (.Tuple [a, b, c] k2 pt2) X.env = pure (some [x, y, z]))
    (hs : swapsWithSole [.Tuple [.Name x px, .Name y py, .Name z pz] kt pt] (.Tuple [a, b, c] k2 pt2) pos.line X.env = pure false) :
    PS X (.Assign [.Tuple [.Name x px, .Name y py, .Name z pz] kt pt] (.Tuple [a, b, c] k2 pt2) pos) (tS Z fun ρ S => (gs ρ S).bind fun ds S1 => (R.of (setAll [i, j, l] ds ρ) S1).bind fun ρ1 S2 => .ok (.nx ρ1) S2) := by
  refine PS.imp (ps_par3 ok.calm ok.nd hi hj hl hij hil hjl hx hy hz ha hw hs) fun D σ H ⟨ρ, w, e, wok, r, e0, p⟩ => ?_
  refine ⟨ρ, w, e, wok, r, (PostS.bind (σ := σ) e0 p).imp fun ds w1 x1 ok1 ⟨e2, p1⟩ vs rs => ?_⟩
  match ds, p1, rs with
  | [d1, d2, d3], p1, rs =>
    simp only [RepL] at rs
    obtain ⟨v1, _, rfl, r1, v2, _, rfl, r2, v3, _, rfl, r3, rfl⟩ := rs
    simp only [setAll] at p1
    by_cases hl : i < ρ.length
    · rw [if_pos hl] at p1
      by_cases hl2 : j < (ρ.set i (some d1)).length
      · rw [if_pos hl2] at p1
        by_cases hl3 : l < ((ρ.set i (some d1)).set j (some d2)).length
        · rw [if_pos hl3, of_some, bind_ok] at p1
          exact ⟨v1, v2, v3, rfl, p1 _ w1 (ExtF.refl w1) e2 ok1 rfl ((((r.ext x1).set hl hoi r1).set hl2 hoj r2).set hl3 hol r3)⟩
        · rw [if_neg hl3] at p1
          exact p1.elim
      · rw [if_neg hl2] at p1
        exact p1.elim
    · rw [if_neg hl] at p1
      exact p1.elim
  | [], p1, _ => exact p1.elim
  | [_], p1, _ =>
    simp only [setAll] at p1
    split at p1 <;> exact p1.elim
  | [_, _], p1, _ =>
    simp only [setAll] at p1
    split at p1
    · split at p1 <;> exact p1.elim
    · exact p1.elim
  | _ :: _ :: _ :: _ :: _, p1, _ =>
    simp only [setAll] at p1
    split at p1
    · split at p1
      · split at p1 <;> exact p1.elim
      · exact p1.elim
    · exact p1.elim

/-! ### lists of the frame's own -/
theorem EnvR.drop {w : Wd} {σ : Sl} {ρ : Env} (r : EnvR Z w σ ρ) {i : Nat} {d : D} {v : V} (hi : i < ρ.length) (ho : i ∈ Z.O) (rv : OwnV Z w d v) (hd : ∀ j e p, j ∈ Z.O → j ≠ i → getV ρ j = some e → σ[j]? = some (some (.ref p)) → v ≠ .ref p) :
    EnvR Z w (σ.set i (some v)) (ρ.set i (some d)) where
  len := by simp [r.len]
  val := fun j e h => by
    by_cases hj : i = j
    · subst hj
      rw [getV_set_same hi] at h
      cases h
      exact ⟨v, by rw [List.getElem?_set_self (by rw [r.len]; exact hi)], fun _ => rv, fun h => absurd ho h⟩
    · rw [getV_set_ne hj] at h
      obtain ⟨u, e1, a, b⟩ := r.val j e h
      exact ⟨u, by rw [List.getElem?_set_ne hj]; exact e1, a, b⟩
  dis := fun j k e f p hj hk h1 h2 h3 h4 => by
    by_cases nj : i = j
    · subst nj
      rw [List.getElem?_set_self (by rw [r.len]; exact hi)] at h3
      by_cases nk : i = k
      · exact nk
      · rw [getV_set_ne nk] at h2
        rw [List.getElem?_set_ne nk] at h4
        exact absurd (Option.some.inj (Option.some.inj h3)) (hd k f p hk (Ne.symm nk) h2 h4)
    · by_cases nk : i = k
      · subst nk
        rw [List.getElem?_set_self (by rw [r.len]; exact hi)] at h4
        rw [getV_set_ne nj] at h1
        rw [List.getElem?_set_ne nj] at h3
        exact absurd (Option.some.inj (Option.some.inj h4)) (hd j e p hj (Ne.symm nj) h1 h3)
      · rw [getV_set_ne nj] at h1
        rw [getV_set_ne nk] at h2
        rw [List.getElem?_set_ne nj] at h3
        rw [List.getElem?_set_ne nk] at h4
        exact r.dis j k e f p hj hk h1 h2 h3 h4
/-- name = [..], a list of the frame's own -/
theorem s_own {i : Nat} {x : Str} {pos' p2 : Pos} (ok : XOk Z X) (hi : X.N[i]? = some x) (hx : Loc X.env.scope x) (hs : PA X es (tGA Z gs)) (hl : ∀ ρ S ds S', gs ρ S = .ok ds S' → ds.length ≤ LIM)
    (hf : X.fn x = true ∨ X.env.scope.names.lookup x = some .local) (ho : i ∈ Z.O) :
    PS X (.Assign [.Name x pos'] (.List es p2) pos) (tS Z fun ρ S => (gs ρ S).bind fun ds S1 => setI ρ i (.lst ds) S1) := by
  refine PS.imp (ps_set ok.nd hi hx (pe_lst hs) rfl hf) fun D σ H ⟨ρ, w, e, wok, r, e0, p⟩ => ?_
  refine ⟨ρ, w, e, wok, r, ?_⟩
  have hlen := hl ρ w.S
  refine (show Post Z σ w (gs ρ w.S) fun ds w1 => ds.length ≤ LIM ∧ Ext Z.w0 w1 ∧ Ext w w1 ∧ PostS Z w1 (setI ρ i (.lst ds) w1.S) D from ?_).imp fun ds w1 _ ok1 ⟨h1, e2, x1, p1⟩ vs rs => ?_
  · cases eg : gs ρ w.S with
    | no => dsimp only at p; rw [eg] at p; exact p.elim
    | ex c vs S' => dsimp only at p; rw [eg] at p; exact fun w' cls dx a b c d => p w' cls dx σ (e0.trans a) b c d
    | ok ds S1 =>
      dsimp only at p
      rw [eg] at p
      intro w1 a b s1
      subst s1
      exact ⟨hlen _ _ eg, e0.trans a, a, PostS.ext p a.toF⟩
  · refine ⟨by rw [← rs.length]; exact lim_line h1, fun q n => ?_⟩
    unfold setI at p1
    split at p1
    · rename_i hil
      have x2 : Ext w1 { w1 with H := upd w1.H q (.lst vs) } := by
        refine ⟨Sub.refl _, fun _ _ => rfl, fun a o e _ _ => ?_, fun a ha => ?_, [], by simp, by simp⟩
        · show upd w1.H q _ a = _
          rw [upd_ne (ne_of_none e n)]
          exact e
        · show upd w1.H q _ a ≠ none
          by_cases z : a = q
          · rw [z, upd_same]
            simp
          · rw [upd_ne z]
            exact ha
      have ok2 : WOk Z.G { w1 with H := upd w1.H q (.lst vs) } := by
        refine ⟨fun a o e => ?_, ok1.nd, ok1.len, fun n' a so q1 q2 => ?_, tabs_upd ok1.tab n, ok1.ntb⟩
        · show upd w1.H q _ a = _
          rw [upd_ne (ne_of_none (ok1.sub a o e) n)]
          exact ok1.sub a o e
        · obtain ⟨g1, g2⟩ := ok1.st n' a so q1 q2
          refine ⟨g1, ?_⟩
          cases so with
          | lst ds =>
            obtain ⟨us, q3, q4⟩ := g2
            exact ⟨us, by show upd w1.H q _ a = _; rw [upd_ne (ne_of_none q3 n)]; exact q3, q4⟩
          | ins _ _ => exact g2.elim
      have mq : q ∉ w1.M := fun z => by
        obtain ⟨m, hm⟩ := List.getElem?_of_mem z
        obtain ⟨hl', _⟩ := List.getElem?_eq_some_iff.mp hm
        obtain ⟨_, g2⟩ := ok1.st m q _ hm (List.getElem?_eq_getElem (by rw [← ok1.len]; exact hl'))
        cases hso : w1.S[m]'(by rw [← ok1.len]; exact hl') with
        | lst ds =>
          rw [hso] at g2
          obtain ⟨us, q3, _⟩ := g2
          rw [n] at q3
          cases q3
        | ins _ _ =>
          rw [hso] at g2
          exact g2.elim
      have r1 := r.ext x1
      refine p1 (σ.set i (some (.ref q))) { w1 with H := upd w1.H q (.lst vs) } x2.toF (e2.trans x2) ok2 rfl (EnvR.drop (r1.ext x2) hil ho ⟨q, vs, rfl, none_of_sub ok1.sub n, ?_, mq, upd_same, rs⟩ fun j e p hj hji hv hσ z => ?_)
      · cases e3 : Z.w0.H q with
        | none => rfl
        | some o => exact absurd n (e2.hn q (by rw [e3]; simp))
      · cases z
        obtain ⟨v, h1, h2, _⟩ := r1.val j e hv
        rw [hσ] at h1
        cases h1
        cases e with
        | lst es' =>
          obtain ⟨p', us, h3, _, _, _, h4, _⟩ := h2 hj
          cases h3
          rw [n] at h4
          cases h4
        | clo l _ =>
          obtain ⟨p', us, Ls, h3, h4, _⟩ := h2 hj
          cases h3
          have h5 := ok1.sub _ _ h4
          rw [n] at h5
          cases h5
        | _ => exact h2 hj
    · exact p1.elim
end
end RB

set_option Elab.async false
set_option linter.all false
set_option maxRecDepth 100000
set_option maxHeartbeats 4000000
set_option autoImplicit false
/-! Lists that change: the frame's own, the store's. -/
namespace RB
open PySem PySem.Spec PyProof.Rows L2

section
variable {Z : Fm} {X : Cx} {a b c : Expr} {ga gb gc : Env → Store → R D} {gs : Env → Store → R (List D)} {es : List Expr} {pos : Pos}
/-- the own list at p is written -/
theorem EnvR.put {w : Wd} {σ : Sl} {ρ : Env} (r : EnvR Z w σ ρ) {i : Nat} {p : Addr} {d : List D} {us : List V} (hi : i < ρ.length) (ho : i ∈ Z.O) (hσ : σ[i]? = some (some (.ref p))) {d0 : D} (hv : getV ρ i = some d0)
    (f : w.F p = none) (h0 : Z.w0.H p = none) (m : p ∉ w.M) {us0 : List V} (hH : w.H p = some (.lst us0)) (l : RepL Z.G w.F w.M d us) : EnvR Z { w with H := upd w.H p (.lst us) } σ (ρ.set i (some (.lst d))) where
  len := by simp [r.len]
  val := fun j e h => by
    by_cases hj : i = j
    · subst hj
      rw [getV_set_same hi] at h
      cases h
      exact ⟨.ref p, hσ, fun _ => ⟨p, us, rfl, f, h0, m, upd_same, l⟩, fun z => absurd ho z⟩
    · rw [getV_set_ne hj] at h
      obtain ⟨u, e1, a, b⟩ := r.val j e h
      refine ⟨u, e1, fun hjo => ?_, b⟩
      have o := a hjo
      cases e with
      | lst ds =>
        obtain ⟨q, vs, rfl, q1, q2, q3, q4, q5⟩ := o
        have hne : q ≠ p := fun z => hj (by
          subst z
          exact (r.dis j i _ _ q hjo ho h hv e1 hσ).symm)
        exact ⟨q, vs, rfl, q1, q2, q3, by show upd w.H p _ q = _; rw [upd_ne hne]; exact q4, q5⟩
      | clo _ _ =>
        obtain ⟨q, vs, Ls, rfl, q1, qk, q2⟩ := o
        exact ⟨q, vs, Ls, rfl, q1, qk, q2.put hH⟩
      | _ => exact o.elim
  dis := fun j k e f p' hj hk h1 h2 h3 h4 => by
    have old : ∀ {k : Nat} {e : D}, getV (ρ.set i (some (.lst d))) k = some e → ∃ e', getV ρ k = some e' := fun {k e} h => by
      by_cases hk : i = k
      · subst hk
        exact ⟨d0, hv⟩
      · rw [getV_set_ne hk] at h
        exact ⟨e, h⟩
    obtain ⟨e1, h1⟩ := old h1
    obtain ⟨e2, h2⟩ := old h2
    exact r.dis j k e1 e2 p' hj hk h1 h2 h3 h4
theorem Ext.put {w0 w : Wd} (e : Ext w0 w) {p : Addr} {xs ys : List V} (h0 : w0.H p = none) (h : w.H p = some (.lst xs)) : Ext w0 { w with H := upd w.H p (.lst ys) } where
  fs := e.fs
  fn := e.fn
  hs := fun a o ea nm nt => by
    show upd w.H p _ a = _
    rw [upd_ne (ne_of_none ea h0)]
    exact e.hs a o ea nm nt
  hn := fun a ha => by
    show upd w.H p _ a ≠ none
    by_cases z : a = p
    · rw [z, upd_same]
      simp
    · rw [upd_ne z]
      exact e.hn a ha
  ms := e.ms
/-- name.append(e), the list the frame's own -/
theorem s_app {i : Nat} {x : Str} {e : Expr} {px apos cpos : Pos} (ok : XOk Z X) (hi : X.N[i]? = some x) (hx : Vis X.env.scope x) (hd : (x == ("__debug__" : Str)) = false) (hcd : (x == ("__classdict__" : Str)) = false) (he : PE X e (tG Z ga)) (ho : i ∈ Z.O)
    (hline : (apos.endLine == cpos.line) = true) (hst : starEach [e] X.env = (false, eval e X.env) :: starEach [] X.env) (hb : attributeBase (.Name x px) "append" X.env (eval (.Name x px) X.env) = eval (.Name x px) X.env) :
    PS X (.Expr (.Call (.Attribute (.Name x px) "append" apos) [e] [] cpos) pos) (tS Z fun ρ S => match getV ρ i with
      | some (.lst xs) => (ga ρ S).bind fun d S1 => if xs.length < LIM then setI ρ i (.lst (xs ++ [d])) S1 else .no
      | _ => .no) := by
  refine PS.imp (ps_expr (pe_bm PySem.F.plainAttrs_list PySem.F.slot_list_append PySem.F.type_list_append mt_append (pe_var hi hx hd hcd) (pa_cons he pa_nil hst) hb (by rw [hst]; rfl) hline hst rfl) rfl) fun D σ H ⟨ρ, w, e, wok, r, e0, p⟩ => ?_
  dsimp only at p
  cases eg : getV ρ i with
  | none =>
    rw [eg] at p
    exact p.elim
  | some d0 =>
    rw [eg] at p
    cases d0 with
    | lst xs =>
      obtain ⟨v, h1, h2, _⟩ := r.val i _ eg
      obtain ⟨q, vs, rfl, f, h0, m, h, l⟩ := h2 ho
      refine ⟨.ref q, h1, .inl ⟨rfl, vs, .of (by rw [← e]; exact h)⟩, ?_⟩
      refine ⟨ρ, w, e, wok, r, (PostS.bind (σ := σ) e0 p).imp fun d w1 x1 ok1 ⟨e2, p1⟩ u ru => ?_⟩
      have o1 := OwnV.ext (Z := Z) (d := .lst xs) (v := .ref q) ⟨q, vs, rfl, f, h0, m, h, l⟩ x1
      obtain ⟨q', vs', z, f', h0', m', h', l'⟩ := o1
      cases z
      split at p1
      · rename_i hl
        unfold setI at p1
        split at p1
        · rename_i hil
          refine ⟨q, vs', u, rfl, rfl, h', ?_, ?_⟩
          · rw [← l'.length]
            exact lim_lt hl
          · have rl : RepL Z.G w1.F w1.M (xs ++ [d]) (vs' ++ [u]) := l'.append (by simp only [RepL]; exact ⟨u, [], rfl, ru, rfl⟩)
            exact p1 σ { w1 with H := upd w1.H q (.lst (vs' ++ [u])) } (ExtF.refl w1) (e2.put h0' h') (ok1.put h' f' m') rfl ((r.ext x1).put hil ho h1 eg f' h0' m' h' rl)
        · exact p1.elim
      · exact p1.elim
    | _ => exact p.elim
/-- return of a list of the frame's own -/
theorem s_retO {i : Nat} {x : Str} {px : Pos} (ok : XOk Z X) (hi : X.N[i]? = some x) (hx : Vis X.env.scope x) (hd : (x == ("__debug__" : Str)) = false) (hcd : (x == ("__classdict__" : Str)) = false) :
    PS X (.Return (some (.Name x px)) pos) (tS Z fun ρ S => (R.of (getL ρ i) S).bind fun d S1 => .ok (.rt d) S1) := by
  refine PS.imp (ps_ret (pe_var hi hx hd hcd)) fun D σ H ⟨ρ, w, e, wok, r, e0, p⟩ => ?_
  dsimp only at p
  cases eg : getL ρ i with
  | none => rw [eg] at p; exact p.elim
  | some d =>
    rw [eg, of_some, bind_ok] at p
    obtain ⟨hgv, ds, rfl⟩ := getL_is eg
    obtain ⟨v, h1, h2, h3⟩ := r.val i _ hgv
    refine ⟨v, h1, ?_⟩
    by_cases ho : i ∈ Z.O
    · have o := h2 ho
      · obtain ⟨q, vs, rfl, f, h0, m, h, l⟩ := o
        rw [← e]
        refine p { w with F := upd w.F q (.lst vs) } (.ref q) ⟨?_, ?_, e0.hs, e0.hn, e0.ms⟩ (wok.seal h f m) rfl (rep_lst.mpr ⟨q, vs, rfl, upd_same, ?_⟩)
        · exact fun a o ea => by
            show upd w.F q _ a = _
            rw [upd_ne (ne_of_none (e0.fs a o ea) f)]
            exact e0.fs a o ea
        · exact fun a ha => by
            show upd w.F q _ a = _
            rw [upd_ne fun z => ha (by rw [z]; exact h0)]
            exact e0.fn a ha
        · exact l.mono (fun a o e => by
            show upd w.F q _ a = _
            rw [upd_ne (ne_of_none e f)]
            exact e) ⟨[], by simp⟩
    · rw [← e]
      exact p w v e0 wok rfl (h3 ho)

/-! ### the store -/
theorem SoR.ext {G : Hd} {w w' : Wd} (e : Ext w w') : True := trivial
/-- a list of the store is written -/
theorem WOk.setM {G : Hd} {w : Wd} (ok : WOk G w) {n : Nat} {a : Addr} {ds : List D} {us : List V} (h1 : w.M[n]? = some a) {vs : List V} (h2 : w.H a = some (.lst vs)) (l : RepL G w.F w.M ds us) :
    WOk G { w with H := upd w.H a (.lst us), S := w.S.set n (.lst ds) } := by
  have hn : n < w.S.length := by
    rw [← ok.len]
    exact (List.getElem?_eq_some_iff.mp h1).1
  have fa : w.F a = none := (ok.st n a _ h1 (List.getElem?_eq_getElem hn)).1
  refine ⟨fun b o e => ?_, ok.nd, by simp [ok.len], fun k b so q1 q2 => ?_, ?_, ok.ntb⟩
  · show upd w.H a _ b = _
    rw [upd_ne (ne_of_none e fa)]
    exact ok.sub b o e
  · by_cases hk : n = k
    · subst hk
      have q2' : (w.S.set n (.lst ds))[n]? = some so := q2
      rw [List.getElem?_set_self hn] at q2'
      cases q2'
      have : b = a := by
        have q1' : w.M[n]? = some b := q1
        rw [h1] at q1'
        exact (Option.some.inj q1').symm
      subst this
      exact ⟨fa, us, upd_same, l⟩
    · have q2' : (w.S.set n (.lst ds))[k]? = some so := q2
      rw [List.getElem?_set_ne hk] at q2'
      obtain ⟨g1, g2⟩ := ok.st k b so q1 q2'
      have hne : b ≠ a := by
        rintro rfl
        have : n = k := by
          obtain ⟨hl1, e1⟩ := List.getElem?_eq_some_iff.mp h1
          obtain ⟨hl2, e2⟩ := List.getElem?_eq_some_iff.mp (show w.M[k]? = some b from q1)
          exact (List.getElem_inj ok.nd).mp (e1.trans e2.symm)
        exact hk this
      refine ⟨g1, ?_⟩
      cases so with
      | lst es =>
        obtain ⟨ws, q3, q4⟩ := g2
        exact ⟨ws, by show upd w.H a _ b = _; rw [upd_ne hne]; exact q3, q4⟩
      | ins _ _ => exact g2.elim
  · have := (ok.put (p := a) (xs := vs) (ys := us) h2 fa)
    -- the tables stand
    exact fun q hq => by
      obtain ⟨ps, e1, e2, e3⟩ := ok.tab q hq
      have hne : q.1 ≠ a := by
        intro z
        rw [z, h2] at e1
        cases e1
      refine ⟨ps, by show upd w.H a _ q.1 = _; rw [upd_ne hne]; exact e1, e2, fun po cv hc => ?_⟩
      obtain ⟨c, e4, e5⟩ := e3 po cv hc
      refine ⟨c, e4, ?_⟩
      have hne2 : c ≠ a := by
        intro z
        rw [z, h2] at e5
        cases e5
      show upd w.H a _ c = _
      rw [upd_ne hne2]
      exact e5
theorem EnvR.setM {w : Wd} {σ : Sl} {ρ : Env} (r : EnvR Z w σ ρ) {a : Addr} {us : List V} {S' : Store} (hm : a ∈ w.M) : EnvR Z { w with H := upd w.H a (.lst us), S := S' } σ ρ := by
  refine ⟨r.len, fun i d h => ?_, r.dis⟩
  obtain ⟨v, e1, o, q⟩ := r.val i d h
  refine ⟨v, e1, fun hi => ?_, q⟩
  have o := o hi
  cases d with
  | lst ds =>
    obtain ⟨p, vs, rfl, f, h0, m, h, l⟩ := o
    have hne : p ≠ a := fun z => m (by rw [z]; exact hm)
    exact ⟨p, vs, rfl, f, h0, m, by show upd w.H a _ p = _; rw [upd_ne hne]; exact h, l⟩
  | clo _ _ =>
    obtain ⟨p, vs, Ls, rfl, f, k, l⟩ := o
    exact ⟨p, vs, Ls, rfl, f, k, l.setM hm⟩
  | _ => exact o.elim
theorem Ext.setM {w0 w : Wd} (e : Ext w0 w) {a : Addr} {us vs : List V} {S' : Store} (hm : a ∈ w.M) (h : w.H a = some (.lst vs)) : Ext w0 { w with H := upd w.H a (.lst us), S := S' } where
  fs := e.fs
  fn := e.fn
  hs := fun b o eb nm nt => by
    have hne : b ≠ a := by
      rintro rfl
      obtain ⟨more, he, nn⟩ := e.ms
      rw [he] at hm
      rcases List.mem_append.mp hm with z | z
      · exact nm z
      · rw [nn b z] at eb
        cases eb
    show upd w.H a _ b = _
    rw [upd_ne hne]
    exact e.hs b o eb nm nt
  hn := fun b hb => by
    show upd w.H a _ b ≠ none
    by_cases z : b = a
    · rw [z, upd_same]
      simp
    · rw [upd_ne z]
      exact e.hn b hb
  ms := e.ms
/-- a[k] = e, a a list of the store -/
theorem s_setS {e : Expr} {p2 : Pos} (ok : XOk Z X) (he : PE X e (tG Z gc)) (ha : PE X a (tG Z ga)) (hb : PE X b (tG Z gb)) (hs : swapsWithSole [.Subscript a b p2] e pos.line X.env = pure false) (hw : swappedStores [.Subscript a b p2] e X.env = pure none)
    (h1 : (assignEach [.Subscript a b p2] X.env).map (·.2) = [assign (.Subscript a b p2) X.env])
    (has : ∀ v, assign (.Subscript a b p2) X.env v = (do
      let ov ← holding [v] (eval a X.env)
      let iv ← holding [v, ov] (eval b X.env)
      standAt p2
      holding [v, ov, iv] (setItem ov iv v)
      release [v, ov, iv] [])) :
    PS X (.Assign [.Subscript a b p2] e pos) (tS Z fun ρ S => (gc ρ S).bind fun d S1 => (ga ρ S1).bind fun x S2 => (gb ρ S2).bind fun k S3 => match x, k with
    | .ref n, .int j => match S3[n]? with
      | some (.lst xs) => (R.of (setAt xs j d) S3).bind fun ys S4 => .ok (.nx ρ) (S4.set n (.lst ys))
      | _ => .no
    | _, _ => .no) := by
  refine PS.imp (ps_asg he (pg_sub ha hb set_list has) hs hw h1) fun D σ H ⟨ρ, w, e, wok, r, e0, p⟩ => ?_
  refine ⟨ρ, w, e, wok, r, (PostS.bind (σ := σ) e0 p).imp fun d w1 x1 ok1 ⟨e1, p1⟩ v rv => ?_⟩
  refine ⟨ρ, w1, rfl, ok1, r.ext x1, (PostS.bind (σ := σ) e1 p1).imp fun x w2 x2 ok2 ⟨e2, p2⟩ o ro => ?_⟩
  refine ⟨ρ, w2, rfl, ok2, (r.ext x1).ext x2, (PostS.bind (σ := σ) e2 p2).imp fun k w3 x3 ok3 ⟨e3, p3⟩ i ri => ?_⟩
  have ro3 := ro.ext x3
  have rv3 := (rv.ext x2).ext x3
  cases x with
  | ref n =>
    cases k with
    | int j =>
      dsimp only at p3
      cases es : w3.S[n]? with
      | none => rw [es] at p3; exact p3.elim
      | some so =>
        rw [es] at p3
        cases so with
        | lst xs =>
          dsimp only at p3
          cases et : setAt xs j d with
          | none => rw [et] at p3; exact p3.elim
          | some ys =>
            rw [et, of_some, bind_ok] at p3
            obtain ⟨a', hm, rfl⟩ := rep_ref.mp ro3
            rw [rep_int] at ri
            subst ri
            obtain ⟨vs, hv, l⟩ := st_at ok3 hm es
            unfold setAt at et
            obtain ⟨jj, ej, rfl⟩ := Option.map_eq_some_iff.mp et
            have lset := l.set jj rv3
            refine ⟨a', vs, j, jj, rfl, rfl, hv, by rw [← ixOf_eq, ← l.length]; exact ej, ?_⟩
            exact p3 σ { w3 with H := upd w3.H a' (.lst (vs.set jj v)), S := w3.S.set n (.lst (xs.set jj d)) } ⟨Sub.refl _, [], by simp⟩ (e3.setM (List.mem_of_getElem? hm) hv) (ok3.setM hm hv lset) rfl ((((r.ext x1).ext x2).ext x3).setM (List.mem_of_getElem? hm))
        | ins _ _ => exact p3.elim
    | _ => exact p3.elim
  | _ => exact p3.elim
/-- name = [..], a list of the store -/
theorem s_sto {i : Nat} {x : Str} {pos' p2 : Pos} (ok : XOk Z X) (hi : X.N[i]? = some x) (hx : Loc X.env.scope x) (hs : PA X es (tGA Z gs)) (hl : ∀ ρ S ds S', gs ρ S = .ok ds S' → ds.length ≤ LIM)
    (hf : X.fn x = true ∨ X.env.scope.names.lookup x = some .local) (ho : i ∉ Z.O) :
    PS X (.Assign [.Name x pos'] (.List es p2) pos) (tS Z fun ρ S => (gs ρ S).bind fun ds S1 => setI ρ i (.ref S1.length) (S1 ++ [.lst ds])) := by
  refine PS.imp (ps_set ok.nd hi hx (pe_lst hs) rfl hf) fun D σ H ⟨ρ, w, e, wok, r, e0, p⟩ => ?_
  refine ⟨ρ, w, e, wok, r, ?_⟩
  have hlen := hl ρ w.S
  refine (show Post Z σ w (gs ρ w.S) fun ds w1 => ds.length ≤ LIM ∧ Ext Z.w0 w1 ∧ Ext w w1 ∧ PostS Z w1 (setI ρ i (.ref w1.S.length) (w1.S ++ [.lst ds])) D from ?_).imp fun ds w1 _ ok1 ⟨h1, e2, x1, p1⟩ vs rs => ?_
  · cases eg : gs ρ w.S with
    | no => dsimp only at p; rw [eg] at p; exact p.elim
    | ex c vs S' => dsimp only at p; rw [eg] at p; exact fun w' cls dx a b c d => p w' cls dx σ (e0.trans a) b c d
    | ok ds S1 =>
      dsimp only at p
      rw [eg] at p
      intro w1 a b s1
      subst s1
      exact ⟨hlen _ _ eg, e0.trans a, a, PostS.ext p a.toF⟩
  · refine ⟨by rw [← rs.length]; exact lim_line h1, fun q n => ?_⟩
    unfold setI at p1
    split at p1
    · rename_i hil
      have fq : w1.F q = none := none_of_sub ok1.sub n
      have mq : q ∉ w1.M := fun z => by
        obtain ⟨m, hm⟩ := List.getElem?_of_mem z
        obtain ⟨hl', _⟩ := List.getElem?_eq_some_iff.mp hm
        obtain ⟨_, g2⟩ := ok1.st m q _ hm (List.getElem?_eq_getElem (by rw [← ok1.len]; exact hl'))
        cases hso : w1.S[m]'(by rw [← ok1.len]; exact hl') with
        | lst ds =>
          rw [hso] at g2
          obtain ⟨us, q3, _⟩ := g2
          rw [n] at q3
          cases q3
        | ins _ _ =>
          rw [hso] at g2
          exact g2.elim
      have pm : Pre w1.M (w1.M ++ [q]) := ⟨[q], rfl⟩
      have x2 : Ext w1 { F := w1.F, H := upd w1.H q (.lst vs), M := w1.M ++ [q], S := w1.S ++ [.lst ds] } := by
        refine ⟨Sub.refl _, fun _ _ => rfl, fun a o e _ _ => ?_, fun a ha => ?_, [q], rfl, by simpa using n⟩
        · show upd w1.H q _ a = _
          rw [upd_ne (ne_of_none e n)]
          exact e
        · show upd w1.H q _ a ≠ none
          by_cases z : a = q
          · rw [z, upd_same]
            simp
          · rw [upd_ne z]
            exact ha
      have ok2 : WOk Z.G { F := w1.F, H := upd w1.H q (.lst vs), M := w1.M ++ [q], S := w1.S ++ [.lst ds] } := by
        refine ⟨fun a o e => ?_, ?_, by simp [ok1.len], fun n' a so q1 q2 => ?_, tabs_upd ok1.tab n, ok1.ntb⟩
        · show upd w1.H q _ a = _
          rw [upd_ne (ne_of_none (ok1.sub a o e) n)]
          exact ok1.sub a o e
        · show (w1.M ++ [q]).Nodup
          rw [List.nodup_append]
          exact ⟨ok1.nd, by simp, fun a ha b hb => by
            have : b = q := by simpa using hb
            rw [this]
            exact fun z => mq (z ▸ ha)⟩
        · have q1' : (w1.M ++ [q])[n']? = some a := q1
          have q2' : (w1.S ++ [.lst ds])[n']? = some so := q2
          by_cases hn : n' < w1.M.length
          · rw [List.getElem?_append_left hn] at q1'
            rw [List.getElem?_append_left (by rw [← ok1.len]; exact hn)] at q2'
            obtain ⟨g1, g2⟩ := ok1.st n' a so q1' q2'
            refine ⟨g1, ?_⟩
            cases so with
            | lst ds =>
              obtain ⟨us, q3, q4⟩ := g2
              exact ⟨us, by show upd w1.H q _ a = _; rw [upd_ne (ne_of_none q3 n)]; exact q3, q4.mono (Sub.refl _) pm⟩
            | ins _ _ => exact g2.elim
          · have e1 : n' = w1.M.length := by
              have := (List.getElem?_eq_some_iff.mp q1').1
              simp at this
              omega
            rw [e1] at q1' q2'
            rw [List.getElem?_append_right (Nat.le_refl _), Nat.sub_self] at q1'
            rw [ok1.len, List.getElem?_append_right (Nat.le_refl _), Nat.sub_self] at q2'
            cases q1'
            cases q2'
            exact ⟨fq, vs, upd_same, rs.mono (Sub.refl _) pm⟩
      refine p1 (σ.set i (some (.ref q))) { F := w1.F, H := upd w1.H q (.lst vs), M := w1.M ++ [q], S := w1.S ++ [.lst ds] } x2.toF (e2.trans x2) ok2 rfl (((r.ext x1).ext x2).set hil ho (rep_ref.mpr ⟨q, ?_, rfl⟩))
      show (w1.M ++ [q])[w1.S.length]? = some q
      rw [← ok1.len, List.getElem?_append_right (Nat.le_refl _), Nat.sub_self]
      rfl
    · exact p1.elim
end
end RB

set_option Elab.async false
set_option linter.all false
set_option maxRecDepth 100000
set_option maxHeartbeats 4000000
set_option autoImplicit false
/-! Calls of defs. -/
namespace RB
open PySem PySem.Spec PyProof.Rows L2

/-- what a call gives, at its caller -/
def PostR (G : Hd) (cx : Nat → List D → Wd → Value → Option Addr → Prop) (w : Wd) (r : R D) (Q : VK) (E : XK) : Prop := match r with
  | .ok d S' => ∀ w' v, Ext w w' → WOk G w' → w'.S = S' → RepV G w'.F w'.M d v → Q v w'.H
  | .ex c vs S' => ∀ w' cls dx, Ext w w' → WOk G w' → w'.S = S' → cx c vs w' cls dx → E cls dx w'.H
  | .no => False
/-- a def's promise: what its plain meaning says -/
def spG (G : Hd) (cx : Nat → List D → Wd → Value → Option Addr → Prop) (n : Nat) (f : List D → Store → R D) : Sp := fun vs H Q E => ∃ w ds, w.H = H ∧ WOk G w ∧ RepL G w.F w.M ds vs ∧ ds.length = n ∧ PostR G cx w (f ds w.S) Q E
theorem spG_len {G : Hd} {cx : Nat → List D → Wd → Value → Option Addr → Prop} {n : Nat} {f : List D → Store → R D} {ps : List Str} (h : ps.length = n) : ∀ vs H Q E, spG G cx n f vs H Q E → vs.length = ps.length := by
  rintro vs H Q E ⟨w, ds, _, _, r, l, _⟩
  rw [← r.length, l, h]
theorem post_of_R {Z : Fm} {σ : Sl} {w : Wd} {r : R D} {Q : VK} (p : Post Z σ w r fun d w' => ∀ v, RepV Z.G w'.F w'.M d v → Q v w'.H) : PostR Z.G Z.cx w r Q (fun cls dx H => Z.Wx cls dx σ H) := by
  cases r with
  | ok d S' => exact fun w' v a b c r => p w' a b c v r
  | ex c vs S' => exact p
  | no => exact p.elim

/-- a def's promise at one place -/
structure FnAt (P : Program) (w : World) (K : PySem.W.Frag) (mg : Str → Option Value) (base : Heap) (CX : CXT) (A : Around) (k : Nat) (f : Addr) (fd : FuncData) (ps : List Str) (sp : Sp) : Prop where
  len : ∀ vs H Q E, sp vs H Q E → vs.length = ps.length
  run : ∀ (outer : List PySem.Env) (s : Shared) (H : Hp) (args : Args) (us : List Value) (vs : List V) (Q : VK) (E : XK), Room k A → Env0 P w K mg base A outer s H → BindsTo s fd args (ps.zip us) → Vals vs us → sp vs H Q E → codeAny (model P w) A (.call (.ref f) args) (CR CX outer P w H s Q E) s
theorem FnAt.of {P : Program} {w : World} {K : PySem.W.Frag} {mg : Str → Option Value} {base : Heap} {CX : CXT} {A : Around} {k : Nat} {f : Addr} {fd : FuncData} {ps : List Str} {sp : Sp} (F : FnOk P w K mg base CX k f fd ps sp) : FnAt P w K mg base CX A k f fd ps sp := ⟨F.len, F.run A⟩
theorem FnAt.imp {P : Program} {w : World} {K : PySem.W.Frag} {mg : Str → Option Value} {base : Heap} {CX : CXT} {A : Around} {j k : Nat} {f : Addr} {fd : FuncData} {ps : List Str} {sp sp' : Sp} (F : FnAt P w K mg base CX A j f fd ps sp) (hk : j ≤ k) (h : ∀ vs H Q E, sp' vs H Q E → sp vs H Q E) : FnAt P w K mg base CX A k f fd ps sp' :=
  ⟨fun vs H Q E q => F.len vs H Q E (h _ _ _ _ q), fun outer s H args us vs Q E hr e b r q => F.run outer s H args us vs Q E (hr.mono hk) e b r (h _ _ _ _ q)⟩

section
variable {Z : Fm} {X : Cx} {gs : Env → Store → R (List D)} {es : List Expr} {e : Expr} {pos : Pos}
/-- f(e, ..), f's promise told of this very place -/
theorem g_callA {k n : Nat} {f : Addr} {fd : FuncData} {ps : List Str} {sem : List D → Store → R D} {x : Str} {p : Pos} (tk : Takes X Z.Wx) (F : FnAt X.prog X.w X.K X.mg X.base (L2.CX X.prog X.w) X.A k f fd ps (spG Z.G Z.cx n sem))
    (hr : Room k X.A) (hg : Gl X x) (hm : X.mg x = some (.ref f)) (hk : PySem.W.keepIn X.K (.ref f) = true) (hb : Binds X.K fd ps []) (ha : PA X (e :: es) (tGA Z gs)) (hln : ∀ ρ S ds S', gs ρ S = .ok ds S' → ds.length = n)
    (hdb : (x == ("__debug__" : Str)) = false) (he : starEach (e :: es) X.env = (false, eval e X.env) :: starEach es X.env) (hpl : (backTo pos (starEach es X.env)).any (·.1) = false) :
    PE X (.Call (.Name x p) (e :: es) [] pos) (tG Z fun ρ S => (gs ρ S).bind fun ds S1 => sem ds S1) := by
  refine ⟨fun pins s σ H Q I h => ?_⟩
  refine wpAny_Call_Name_kw (ld_glob I hg hm ?_ hdb)
  have h2 : tGA Z gs σ H fun vs H1 => spG Z.G Z.cx n sem vs H1 Q (WE Z.Wx σ) := by
    obtain ⟨ρ, w, rfl, ok, r, q⟩ := h
    refine ⟨ρ, w, rfl, ok, r, ?_⟩
    dsimp only at q
    cases eg : gs ρ w.S with
    | no => rw [eg] at q; exact q
    | ex c vs S' => rw [eg] at q; exact q
    | ok ds S1 =>
      rw [eg, bind_ok] at q
      intro w1 x1 ok1 s1 vs rs
      subst s1
      exact ⟨w1, ds, rfl, ok1, rs, hln _ _ _ _ eg, post_of_R (q.ext x1)⟩
  refine PySem.W.callWith_K (h₀ := X.base) I.ok.mod.kin hk (thn (ha.run pos pins s σ H _ I h2) fun us s1 ⟨vs, H1, I1, r, q⟩ => ⟨I1.kIn, ?_⟩) he hpl
  have hl : us.length = ps.length := by rw [← r.length]; exact F.len _ _ _ _ q
  have b := hb s1 us I1.kIn (by rw [List.append_nil]; exact hl)
  rw [List.append_nil] at b
  refine wpAny_call (codeAny_mono (F.run X.stack s1 H1 ⟨us, []⟩ us vs Q (WE Z.Wx σ) hr I1.env0 b r q) fun rr s' hq => ?_)
  cases rr with
  | error e => exact passAt tk σ pins H1 s1 e s' I1 hq
  | ok fl =>
    cases fl with
    | ret u => exact I1.after hq
    | next => exact False.elim hq
    | brk => exact False.elim hq
    | cont => exact False.elim hq
/-- f(e, ..) -/
theorem g_call {k n : Nat} {f : Addr} {fd : FuncData} {ps : List Str} {sem : List D → Store → R D} {x : Str} {p : Pos} (tk : Takes X Z.Wx) (F : FnOk X.prog X.w X.K X.mg X.base (L2.CX X.prog X.w) k f fd ps (spG Z.G Z.cx n sem))
    (hr : Room k X.A) (hg : Gl X x) (hm : X.mg x = some (.ref f)) (hk : PySem.W.keepIn X.K (.ref f) = true) (hb : Binds X.K fd ps []) (ha : PA X (e :: es) (tGA Z gs)) (hln : ∀ ρ S ds S', gs ρ S = .ok ds S' → ds.length = n)
    (hdb : (x == ("__debug__" : Str)) = false) (he : starEach (e :: es) X.env = (false, eval e X.env) :: starEach es X.env) (hpl : (backTo pos (starEach es X.env)).any (·.1) = false) :
    PE X (.Call (.Name x p) (e :: es) [] pos) (tG Z fun ρ S => (gs ρ S).bind fun ds S1 => sem ds S1) := by
  refine PE.imp (pe_callSD (E := WE Z.Wx) F hr hg hm hk hb .nil (passAt tk) ha hdb he hpl) fun σ H Q h => ?_
  obtain ⟨ρ, w, rfl, ok, r, q⟩ := h
  refine ⟨ρ, w, rfl, ok, r, ?_⟩
  dsimp only at q
  cases eg : gs ρ w.S with
  | no => rw [eg] at q; exact q
  | ex c vs S' => rw [eg] at q; exact q
  | ok ds S1 =>
    rw [eg, bind_ok] at q
    intro w1 x1 ok1 s1 vs rs
    subst s1
    rw [List.append_nil]
    exact ⟨w1, ds, rfl, ok1, rs, hln _ _ _ _ eg, post_of_R (q.ext x1)⟩
end

/-! ### a def's body -/
theorem getV_start {n : Nat} {ds : List D} {i : Nat} {d : D} (h : getV (startEnv n ds) i = some d) : ds[i]? = some d := by
  unfold getV startEnv at h
  by_cases hi : i < ds.length
  · rw [List.getElem?_append_left (by simpa using hi)] at h
    rw [List.getElem?_map, List.getElem?_eq_getElem hi] at h
    rw [List.getElem?_eq_getElem hi]
    simpa using h
  · rw [List.getElem?_append_right (by simp; omega)] at h
    simp only [List.length_map] at h
    by_cases h2 : i - ds.length < n - ds.length
    · rw [List.getElem?_replicate, if_pos h2] at h
      cases h
    · rw [List.getElem?_replicate, if_neg h2] at h
      cases h
theorem start_env {Z : Fm} {N : List Str} {w : Wd} {ds : List D} {vs : List V} {n np : Nat} (r : RepL Z.G w.F w.M ds vs) (hn : N.length = n) (hl : ds.length = np) (hp : np ≤ n) (ho : ∀ i ∈ Z.O, np ≤ i) : EnvR Z w (L2.start N vs) (startEnv n ds) := by
  have e1 := r.length
  refine ⟨?_, fun i d h => ?_, fun i j d e p hi hj h1 h2 => ?_⟩
  · simp [L2.start, startEnv, e1, hn]
  · have h' := getV_start h
    obtain ⟨v, e2, rv⟩ := r.get h'
    have hi : i < vs.length := (List.getElem?_eq_some_iff.mp e2).1
    refine ⟨v, ?_, fun z => ?_, fun _ => rv⟩
    · unfold L2.start
      rw [List.getElem?_append_left (by simpa using hi), List.getElem?_map, e2]
      rfl
    · have := ho i z
      omega
  · have h' := getV_start h1
    have := (List.getElem?_eq_some_iff.mp h').1
    have := ho i hi
    omega

section
variable {P : Program} {w : World} {K : PySem.W.Frag} {mg : Str → Option Value} {base : Heap} {cx : Nat → List D → Wd → Value → Option Addr → Prop}
/-- the frame of a def's body, entered at a world -/
def fmOf (G : Hd) (O : List Nat) (cx : Nat → List D → Wd → Value → Option Addr → Prop) (w0 : Wd) (E : XK) (lf : Nat → List LF → Prop) : Fm := ⟨G, O, w0, fun cls d _ H => E cls d H, cx, lf⟩
/-- .. at one place -/
theorem def_okA {x : Str} {params : Arguments} {body : List Stmt} {scope : Scope} {f : Addr} {fd : FuncData} {N ps : List Str} {k n np : Nat} {G : Hd} {O : List Nat} {g : Env → Store → R Fl} {lf : Cx → Nat → List LF → Prop} {A : Around} (F : FunD K x x params body scope [] [] f fd)
    (S : FnScope N ps scope) (hN : N.length = n) (hp : ps.length = np) (hpn : np ≤ n) (hO : ∀ i ∈ O, np ≤ i)
    (hb : ∀ (outer : List PySem.Env) (s : Shared) (H : Hp) (Q : VK) (E : XK) (w0 : Wd), Room k (A.deeper (envOfC x scope s.heap.objs.size f fd.code)) → w0.H = H →
      PSs (cxOf (L2.CX P w) P w K mg base N x scope f fd.code A outer s H E) body (tS (fmOf G O cx w0 E (lf (cxOf (L2.CX P w) P w K mg base N x scope f fd.code A outer s H E))) g)) :
    FnAt P w K mg base (L2.CX P w) A (k + 1) f fd ps (spG G cx np fun ds S => endOf (g (startEnv n ds) S)) := by
  obtain ⟨oc, od, dV, kV, doc, pm, an, cdv, ct, osl, rfl, lk, hcd, _, _⟩ := F.ex
  refine ⟨spG_len hp, fun outer s H args us vs Q E hr e0 b r h => ?_⟩
  have hl : vs.length = ps.length := spG_len hp _ _ _ _ h
  refine LamX.run_ofS lk hcd S hr e0 b r hl fun hr1 => ?_
  obtain ⟨w0, ds, e, ok, rr, l, p⟩ := h
  refine ⟨_, hb outer s H Q E w0 hr1 e, ?_⟩
  refine ⟨startEnv n ds, w0, e, ok, start_env rr hN l hpn hO, Ext.refl w0, ?_⟩
  unfold endOf at p
  dsimp only at p
  cases eg : g (startEnv n ds) w0.S with
  | no => rw [eg] at p; exact p.elim
  | ex c vs S' =>
    rw [eg] at p
    exact fun w' cls dx σ' a b c d => p w' cls dx a b c d
  | ok fl S1 =>
    rw [eg, bind_ok] at p
    cases fl with
    | nx ρ' => exact fun σ' w' _ a b c _ => p w' .non a b c (rep_non.mpr rfl)
    | rt d => exact fun w' v a b c rv => p w' v a b c rv
/-- A DEF'S BODY KEEPS ITS PLAIN MEANING -/
theorem def_ok {x : Str} {params : Arguments} {body : List Stmt} {scope : Scope} {f : Addr} {fd : FuncData} {N ps : List Str} {k n np : Nat} {G : Hd} {O : List Nat} {g : Env → Store → R Fl} {lf : Cx → Nat → List LF → Prop} (F : FunD K x x params body scope [] [] f fd)
    (S : FnScope N ps scope) (hN : N.length = n) (hp : ps.length = np) (hpn : np ≤ n) (hO : ∀ i ∈ O, np ≤ i)
    (hb : ∀ (A : Around) (outer : List PySem.Env) (s : Shared) (H : Hp) (Q : VK) (E : XK) (w0 : Wd), Room k (A.deeper (envOfC x scope s.heap.objs.size f fd.code)) → w0.H = H →
      PSs (cxOf (L2.CX P w) P w K mg base N x scope f fd.code A outer s H E) body (tS (fmOf G O cx w0 E (lf (cxOf (L2.CX P w) P w K mg base N x scope f fd.code A outer s H E))) g)) :
    FnOk P w K mg base (L2.CX P w) (k + 1) f fd ps (spG G cx np fun ds S => endOf (g (startEnv n ds) S)) := by
  obtain ⟨oc, od, dV, kV, doc, pm, an, cdv, ct, osl, rfl, lk, hcd, _, _⟩ := F.ex
  refine fn_of lk hcd S (spG_len hp) fun A outer s H vs Q E hr h => ?_
  obtain ⟨w0, ds, e, ok, r, l, p⟩ := h
  refine ⟨_, hb A outer s H Q E w0 hr e, ?_⟩
  refine ⟨startEnv n ds, w0, e, ok, start_env r hN l hpn hO, Ext.refl w0, ?_⟩
  unfold endOf at p
  dsimp only at p
  cases eg : g (startEnv n ds) w0.S with
  | no => rw [eg] at p; exact p.elim
  | ex c vs S' =>
    rw [eg] at p
    exact fun w' cls dx σ' a b c d => p w' cls dx a b c d
  | ok fl S1 =>
    rw [eg, bind_ok] at p
    cases fl with
    | nx ρ' => exact fun σ' w' _ a b c _ => p w' .non a b c (rep_non.mpr rfl)
    | rt d => exact fun w' v a b c rv => p w' v a b c rv
end
end RB

set_option Elab.async false
set_option linter.all false
set_option maxRecDepth 100000
set_option maxHeartbeats 4000000
set_option autoImplicit false
/-! enumerate over a text or a tuple, zip of two texts: what a loop walks. -/
namespace RB
open PySem PySem.Spec PyProof.Rows L2

/-! ### a text's iterator draws its signs -/
theorem draws_text {P : Program} {w : World} {A : Around} (hh : A.handled = none) (it : Addr) (x : Str) (t : Tok) :
    Draws P w A it [it] x.cps.size (fun i v => ∃ c u, x.cps[i]? = some c ∧ v = .str ⟨#[c]⟩ u) (fun i h => h.IsStrIter it (strIterType x) x t i) := by
  cases h : x.cps.all (· < 128) with
  | true =>
    have e : strIterType x = "str_ascii_iterator" := by unfold strIterType; rw [h]; rfl
    rw [e]
    exact .strAscii hh it x t
  | false =>
    have e : strIterType x = "str_iterator" := by unfold strIterType; rw [h]; rfl
    rw [e]
    exact .strWide hh it x t

/-! ### enumerate over whatever draws -/
/-- pairs of the place and an item -/
def Iten (n : Nat) (f : Nat → V → Prop) : It :=
  ⟨fun i _ => i < n, fun i H v H' => ∃ T x, v = .ref T ∧ H T = none ∧ H' = upd H T (.tup [.int (i : Nat), x]) ∧ f i x, fun i _ => i = n⟩
theorem turn_enumD {P : Program} {w : World} {K : PySem.W.Frag} {elts : List Expr} {kk : Nat} {tpos : Pos} {e it : Addr} {n : Nat} {Pv : Nat → Value → Prop} {St : Nat → Heap → Prop} {f : Nat → V → Prop} (hne : e ≠ it)
    (D : ∀ A : Around, A.handled = none → Draws P w A it [it] n Pv St) (hob : ∀ i h, St i h → ∃ o, h.get? it = some o ∧ ∀ v, o.data ≠ .cell v) (hP : ∀ i u, Pv i u → ∃ x, f i x ∧ RelV x u) :
    Turn P w K (.Tuple elts kk tpos) (Iten n f) [e, it] e (fun i h => (∃ old, IsEnum h e it ((i : Nat) : Int) old) ∧ St i h) where
  mem := by simp
  obj := fun i h st b hb => by
    obtain ⟨⟨old, he⟩, hs⟩ := st
    have e' : b = e ∨ b = it := by simpa using hb
    rcases e' with z | z
    · rw [z]; exact ⟨_, he, fun v q => nomatch q⟩
    · rw [z]; exact hob i h hs
  keep := fun i h h' ⟨⟨old, he⟩, hs⟩ k => ⟨⟨old, k e (by simp) _ he⟩, (D {} rfl).frame i h h' hs fun b hb o q => k b (by
    have e' : b = it := by simpa using hb
    rw [e']
    simp) o q⟩
  item := by
    intro X hX hw hK hc i pins s σ H E I hf st hg
    subst hX hw hK
    obtain ⟨⟨old, he⟩, hs⟩ := st
    have hel : e < s.heap.objs.size := Heap.lt_size he
    have Da := D X.A.in1 (I.ok.hd hc)
    have hil : it < s.heap.objs.size := by obtain ⟨_, q⟩ := Da.live _ _ hs; exact Heap.lt_size q
    refine wpAny_pyNext_enum_itemD Da he hs hg hne (by simpa using hne) fun u h' tk hu ho hs' hT hsz hk => ?_
    obtain ⟨x, fx, ru⟩ := hP i u hu
    refine ⟨_, rfl, wpAny_letOwnedTupleGo_enum (s := { s with heap := h', toks := tk + 1 }) ho fun h'' he' sb => ?_⟩
    have hT2 : h''.get? s.heap.objs.size = some { cls := .type "tuple", data := .seq #[.int i tk, u] } := (sb.2 _ (Nat.ne_of_gt hel)).trans hT
    have new : ObjOk X.prog X.w (upd H s.heap.objs.size (.tup [.int (i : Nat), x])) h'' s.heap.objs.size (.tup [.int (i : Nat), x]) :=
      ⟨by show 2 ≤ sizeLine; decide, [.int i tk, u], .cons ⟨_, rfl⟩ (.cons ru .nil), ⟨_, hT2, rfl, _, rfl⟩⟩
    have I1 : Inv X pins σ (upd H s.heap.objs.size (.tup [.int (i : Nat), x])) { s with heap := h'', toks := tk + 1 } :=
      I.turnedNew (ch := [e, it]) (fun b ob hb q => (sb.2 b (fun z => hb (by simp [z]))).trans (hk b ob (fun z => hb (by simp [z])) (fun z => hb (by simp [z])) q)) hf (Nat.le_refl _) new
    refine ⟨.ref s.heap.objs.size, _, I1, rfl, ⟨_, x, rfl, I.hok.fresh (Nat.le_refl _), rfl, fx⟩, ⟨⟨u, ?_⟩, Da.frame _ _ _ hs' fun b hb o q => ?_⟩, fun b hb => ?_⟩
    · have e1 : ((i + 1 : Nat) : Int) = (i : Int) + 1 := by omega
      rw [e1]; exact he'
    · have eb : b = it := by simpa using hb
      rw [eb] at q ⊢
      exact (sb.2 it (Ne.symm hne)).trans q
    · have hb' : b < s.heap.objs.size := by
        have e' : b = e ∨ b = it := by simpa using hb
        rcases e' with z | z
        · rw [z]; exact hel
        · rw [z]; exact hil
      rw [upd_ne (Nat.ne_of_lt hb')]
      exact (hf b hb).1
  done := by
    intro X hX hw hK hc i pins s σ H E I hf st hg
    subst hX hw hK
    obtain ⟨⟨old, he⟩, hs⟩ := st
    obtain rfl : i = n := hg
    obtain ⟨f0, f1, f2, f3, f4, f5⟩ := hf it (by simp)
    exact wpAny_pyNext_enum_endD (D X.A.in1 (I.ok.hd hc)) he hs fun h' eb => ⟨rfl, I.turned (t' := s.toks) (fun b o hb q => eb b o hb q) f0 f1 f3 f4 f5⟩
  self := fun A i s Q E ⟨⟨_, he⟩, _⟩ h => wpAny_pyIter_enum he h
def iEnumS (ta : TA) : TI := fun σ H R => ta σ H fun vs H1 => ∃ x : Str, vs = [.str x] ∧ R (Iten x.cps.size fun i v => ∃ c, x.cps[i]? = some c ∧ v = .str ⟨#[c]⟩) H1
theorem pi_enumS {X : Cx} {e : Expr} {ta : TA} {p pos tpos : Pos} {elts : List Expr} {kk : Nat} (hg : Gl X "enumerate") (hm : X.mg "enumerate" = none) (ha : PA X [e] ta) (hs : starEach [e] X.env = (false, eval e X.env) :: starEach [] X.env) :
    PI X (.Tuple elts kk tpos) (.Call (.Name "enumerate" p) [e] [] pos) (iEnumS ta) := by
  refine ⟨fun pins s σ H R I h => ?_⟩
  refine Call_ (ld_blt I hg hm boot_enumerate (PyProof.Rows.callWith_type1 (thn (ha.run pos pins s σ H _ I h) fun us s1 ⟨vs, H1, I1, r1, q1⟩ => ?_) hs rfl))
  obtain ⟨x, ex, q⟩ := q1
  subst ex
  cases r1 with
  | cons r rr =>
    cases rr
    obtain ⟨t, rfl⟩ := r
    refine call_enumerate_str fun h' he hit hsz hk => wpAny_pyIter_enum he ?_
    have I2 : Inv X pins σ H1 { s1 with heap := h' } := I1.kept (t' := s1.toks) hk
    refine ⟨s1.heap.objs.size + 1, [s1.heap.objs.size + 1, s1.heap.objs.size], _, _, H1, rfl, I2, turn_enumD (n := x.cps.size) (Nat.succ_ne_self _) (fun A hh => draws_text hh s1.heap.objs.size x t) (fun i h st => ?_) (fun i u hu => ?_), ⟨⟨.none, he⟩, hit⟩, fun b hb => ?_, q⟩
    · obtain ⟨o, ho, _, hd⟩ := st
      exact ⟨o, ho, fun v z => by rw [hd] at z; cases z⟩
    · obtain ⟨c, u', hc, rfl⟩ := hu
      exact ⟨.str ⟨#[c]⟩, ⟨c, hc, rfl⟩, ⟨u', rfl⟩⟩
    · have e' : b = s1.heap.objs.size + 1 ∨ b = s1.heap.objs.size := by simpa using hb
      have hle : s1.heap.objs.size ≤ b := by
        rcases e' with z | z
        · rw [z]; exact Nat.le_add_right _ _
        · rw [z]; exact Nat.le_refl _
      exact I1.fpOk hle (I1.hok.fresh hle)

/-! ### their readings -/
section
variable {Z : Fm} {X : Cx} {a b : Expr} {ga gb : Env → Store → R D} {pos : Pos}
theorem enumD_get : ∀ {xs : List D} {k i : Nat} {d : D}, (enumD k xs)[i]? = some d → ∃ x, xs[i]? = some x ∧ d = .tup [.int ((k + i : Nat) : Int), x]
  | [], k, i, d, h => by simp [enumD] at h
  | x :: xs, k, 0, d, h => by
    simp [enumD] at h
    exact ⟨x, rfl, by rw [← h]; rfl⟩
  | x :: xs, k, i + 1, d, h => by
    simp only [enumD, List.getElem?_cons_succ] at h
    obtain ⟨y, e, q⟩ := enumD_get h
    exact ⟨y, e, by rw [q, show k + 1 + i = k + (i + 1) by omega]⟩
theorem enumD_len : ∀ {xs : List D} {k : Nat}, (enumD k xs).length = xs.length
  | [], _ => rfl
  | _ :: xs, k => by simp only [enumD, List.length_cons, enumD_len]
/-- pairs of the place and an item are what such a loop walks -/
theorem walks_en {n : Nat} {f : Nat → V → Prop} {w0 : Wd} {xs : List D} (hn : n = xs.length) (hf : ∀ (i : Nat) (d : D) (x : V) (w : Wd), xs[i]? = some d → ExtF w0 w → f i x → RepV Z.G w.F w.M d x) : Walks Z (Iten n f) w0 (enumD 0 xs) where
  go := fun i d w e ex ok => by
    obtain ⟨y, ey, rfl⟩ := enumD_get e
    have hi : i < n := by
      rw [hn]
      exact (List.getElem?_eq_some_iff.mp ey).1
    refine ⟨hi, fun v H' hy => ?_⟩
    obtain ⟨T, x, rfl, nT, rfl, fx⟩ := hy
    refine ⟨w.new T (.tup [.int (i : Nat), x]), rfl, Wd.new_ext ok.sub nT, ok.new nT (fun ps z => by cases z), rfl, rep_newT ok nT ?_⟩
    simp only [RepL, RepV]
    exact ⟨_, [x], rfl, by rw [Nat.zero_add], x, [], rfl, hf i y x w ey ex fx, rfl⟩
  stop := fun w ex ok => by
    show (enumD 0 xs).length = n
    rw [enumD_len, hn]
theorem i_enumS {p tpos : Pos} {elts : List Expr} {kk : Nat} (ha : PE X a (tG Z ga)) (hg : Gl X "enumerate") (hm : X.mg "enumerate" = none) (hst : starEach [a] X.env = (false, eval a X.env) :: starEach [] X.env) :
    PI X (.Tuple elts kk tpos) (.Call (.Name "enumerate" p) [a] [] pos) (tI Z fun ρ S => (ga ρ S).bind fun x S1 => match x with
    | .str s => if s.length ≤ LIM then .ok (enumD 0 (signsOf s)) S1 else .no
    | _ => .no) := by
  refine PI.imp (pi_enumS hg hm (pa_cons ha pa_nil hst) hst) fun σ H Rk h => ?_
  obtain ⟨ρ, w, rfl, wok, r, p⟩ := h
  refine ⟨ρ, w, rfl, wok, r, p.bind.imp fun x w1 e1 ok1 p1 v rv => ?_⟩
  cases x with
  | str t =>
    rw [rep_str] at rv
    subst rv
    dsimp only at p1
    split at p1
    · refine ⟨strV t, rfl, p1 w1 (Ext.refl w1) ok1 rfl _ ?_⟩
      refine walks_en (by simp [strV, signsOf]) fun i d x w e ex fx => ?_
      obtain ⟨c, e2, rfl⟩ := signsOf_get e
      obtain ⟨c', e3, rfl⟩ := fx
      have e4 : (strV t).cps[i]? = t[i]? := by simp [strV]
      rw [e4, e2] at e3
      cases e3
      exact rep_str.mpr rfl
    · exact p1.elim
  | _ => exact p1.elim
/-- zip of two lists or of two tuples -/
theorem zipD_get : ∀ {xs ys : List D} {i : Nat} {d : D}, (zipD xs ys)[i]? = some d → ∃ x y, xs[i]? = some x ∧ ys[i]? = some y ∧ d = .tup [x, y]
  | [], ys, i, d, h => by simp [zipD] at h
  | _ :: _, [], i, d, h => by simp [zipD] at h
  | x :: xs, y :: ys, 0, d, h => by
    simp [zipD] at h
    exact ⟨x, y, rfl, rfl, h.symm⟩
  | x :: xs, y :: ys, i + 1, d, h => by
    simp only [zipD, List.getElem?_cons_succ] at h
    simpa using zipD_get h
theorem zipD_len : ∀ {xs ys : List D}, (zipD xs ys).length = min xs.length ys.length
  | [], _ => by simp [zipD]
  | _ :: _, [] => by simp [zipD]
  | _ :: xs, _ :: ys => by
    simp only [zipD, List.length_cons, zipD_len]
    omega
theorem walks_zipL {K : PySem.W.Frag} {l1 l2 : Addr} {vs us : List V} {xs ys : List D} {w0 : Wd} (e1 : w0.F l1 = some (.lst vs)) (e2 : w0.F l2 = some (.lst us)) (r1 : RepL Z.G w0.F w0.M xs vs) (r2 : RepL Z.G w0.F w0.M ys us) : Walks Z (Itz K l1 l2) w0 (zipD xs ys) where
  go := fun i d w e ex ok => by
    obtain ⟨x, y, ex1, ey1, rfl⟩ := zipD_get e
    obtain ⟨u, hu, ru⟩ := r1.get ex1
    obtain ⟨v, hv, rv⟩ := r2.get ey1
    have q1 : SqL K w.H l1 vs := .of (ok.sub _ _ (ex.1 _ _ e1))
    have q2 : SqL K w.H l2 us := .of (ok.sub _ _ (ex.1 _ _ e2))
    refine ⟨⟨vs, us, u, v, q1, q2, hu, hv⟩, fun z H' hy => ?_⟩
    obtain ⟨T, a, b, rfl, nT, rfl, fa, fb⟩ := hy
    have ea := fa _ q1
    have eb := fb _ q2
    rw [hu] at ea
    rw [hv] at eb
    cases ea
    cases eb
    refine ⟨w.new T (.tup [u, v]), rfl, Wd.new_ext ok.sub nT, ok.new nT (fun ps z => by cases z), rfl, rep_newT ok nT ?_⟩
    simp only [RepL]
    exact ⟨u, [v], rfl, ru.mono ex.1 ex.2, v, [], rfl, rv.mono ex.1 ex.2, rfl⟩
  stop := fun w ex ok => ⟨vs, us, .of (ok.sub _ _ (ex.1 _ _ e1)), .of (ok.sub _ _ (ex.1 _ _ e2)), by
    rw [zipD_len, ← r1.length, ← r2.length]
    omega⟩
theorem walks_zipT {l1 l2 : Addr} {vs us : List V} {xs ys : List D} {w0 : Wd} (e1 : SqT Z.G.K w0.F l1 vs) (e2 : SqT Z.G.K w0.F l2 us) (r1 : RepL Z.G w0.F w0.M xs vs) (r2 : RepL Z.G w0.F w0.M ys us) : Walks Z (RZ.ItzT Z.G.K l1 l2) w0 (zipD xs ys) where
  go := fun i d w e ex ok => by
    obtain ⟨x, y, ex1, ey1, rfl⟩ := zipD_get e
    obtain ⟨u, hu, ru⟩ := r1.get ex1
    obtain ⟨v, hv, rv⟩ := r2.get ey1
    have q1 : SqT Z.G.K w.H l1 vs := ok.sub.sqT (ex.1.sqT e1)
    have q2 : SqT Z.G.K w.H l2 us := ok.sub.sqT (ex.1.sqT e2)
    refine ⟨⟨vs, us, u, v, q1, q2, hu, hv⟩, fun z H' hy => ?_⟩
    obtain ⟨T, a, b, rfl, nT, rfl, fa, fb⟩ := hy
    have ea := fa _ q1
    have eb := fb _ q2
    rw [hu] at ea
    rw [hv] at eb
    cases ea
    cases eb
    refine ⟨w.new T (.tup [u, v]), rfl, Wd.new_ext ok.sub nT, ok.new nT (fun ps z => by cases z), rfl, rep_newT ok nT ?_⟩
    simp only [RepL]
    exact ⟨u, [v], rfl, ru.mono ex.1 ex.2, v, [], rfl, rv.mono ex.1 ex.2, rfl⟩
  stop := fun w ex ok => ⟨vs, us, ok.sub.sqT (ex.1.sqT e1), ok.sub.sqT (ex.1.sqT e2), by
    rw [zipD_len, ← r1.length, ← r2.length]
    omega⟩
theorem i_zip (ok : XOk Z X) {p tpos : Pos} {elts : List Expr} {kk : Nat} (ha : PE X a (tG Z ga)) (hb : PE X b (tG Z gb)) (hg : Gl X "zip") (hm : X.mg "zip" = none) (hst : starEach [a, b] X.env = (false, eval a X.env) :: starEach [b] X.env) (hst2 : starEach [b] X.env = (false, eval b X.env) :: starEach [] X.env) :
    PI X (.Tuple elts kk tpos) (.Call (.Name "zip" p) [a, b] [] pos) (tI Z fun ρ S => (ga ρ S).bind fun x S1 => (gb ρ S1).bind fun y S2 => .of (zipOf x y) S2) := by
  refine PI.imp (RZ.pi_zipA hg hm (pa_cons ha (pa_cons hb pa_nil hst2) hst) hst (by rw [hst2]; rfl)) fun σ H Rk h => ?_
  obtain ⟨ρ, w, rfl, wok, r, p⟩ := h
  refine ⟨ρ, w, rfl, wok, r, p.bind.imp fun x w1 e1 ok1 p1 v rv => ?_⟩
  refine ⟨ρ, w1, rfl, ok1, r.ext e1, p1.bind.imp fun y w2 e2 ok2 p2 u ru => ?_⟩
  have rv2 := rv.ext e2
  obtain ⟨ds, ed, k⟩ := p2.of ok2
  cases x <;> cases y <;> try (cases ed; done)
  · obtain ⟨l1, vs, rfl, q1, r1⟩ := rep_tup.mp rv2
    obtain ⟨l2, us, rfl, q2, r2⟩ := rep_tup.mp ru
    cases ed
    refine ⟨l1, l2, vs, us, rfl, .inr ⟨by rw [ok.hK]; exact ok2.sub.sqT q1, by rw [ok.hK]; exact ok2.sub.sqT q2, ?_⟩⟩
    rw [ok.hK]
    exact k w2 (Ext.refl w2) ok2 rfl _ (walks_zipT q1 q2 r1 r2)
  · obtain ⟨l1, vs, rfl, q1, r1⟩ := rep_lst.mp rv2
    obtain ⟨l2, us, rfl, q2, r2⟩ := rep_lst.mp ru
    cases ed
    exact ⟨l1, l2, vs, us, rfl, .inl ⟨.of (ok2.sub _ _ q1), .of (ok2.sub _ _ q2), k w2 (Ext.refl w2) ok2 rfl _ (walks_zipL q1 q2 r1 r2)⟩⟩
end
end RB

set_option Elab.async false
set_option linter.all false
set_option maxRecDepth 100000
set_option maxHeartbeats 4000000
set_option autoImplicit false
/-! Comprehensions as values and as what a name gets. -/
namespace RB
open PySem PySem.Spec PyProof.Rows L2

section
variable {Z : Fm} {X : Cx} {pos : Pos}
theorem XOk.blk (ok : XOk Z X) (s : Shared) (H : Hp) (scope : Scope) (cenv : PySem.Env) (fp : List Addr) : XOk Z.quiet (X.blk s H scope cenv fp) := ⟨ok.hK, ok.calm, ok.units, ok.nd⟩
theorem takes_blk {s : Shared} {H : Hp} {scope : Scope} {cenv : PySem.Env} {fp : List Addr} : Takes (X.blk s H scope cenv fp) (fun _ _ _ _ => False) := L2.takes0
section
variable {elt tg iter c : Expr} {ifs : List Expr} {scope : Scope} {own : List (Str × Nat)} {t : Tg} {gi : Env → Store → R (List D)} {gc ge : Env → Store → R D}
theorem g_comp (ok : XOk Z X) (bk : BlkOk X.N X.env.scope scope own) (ho : own.map (·.2) = slotsT t) (hi : PI X tg iter (tI Z gi))
    (hg : ∀ (s : Shared) (H : Hp) (C : Addr) (cl : List (Str × Addr)) (fp : List Addr), PG (X.blk s H scope (compEnvC scope cl C X.env) fp) tg (gT Z.quiet t))
    (ht : ∀ (s : Shared) (H : Hp) (C : Addr) (cl : List (Str × Addr)) (fp : List Addr), PTs (X.blk s H scope (compEnvC scope cl C X.env) fp) ifs (tGT Z.quiet gc))
    (he : ∀ (s : Shared) (H : Hp) (C : Addr) (cl : List (Str × Addr)) (fp : List Addr), PE (X.blk s H scope (compEnvC scope cl C X.env) fp) elt (tG Z.quiet ge)) (hs : ∀ x, foldedSetIterable iter X.env x = pure x) :
    PE X (.ListComp elt [⟨tg, iter, ifs, 0⟩] scope pos) (tG Z fun ρ S => (gi ρ S).bind fun ds S1 => compL (comp t (compF gc ge) ds (wipeE ρ (slotsT t)) S1)) := by
  refine PE.imp (pe_lc ok.calm ok.nd hi bk hg ht he hs) fun σ H Q h => ?_
  rw [ho]
  exact comp_reading h
theorem s_asgC {i : Nat} {y : Str} {py spos : Pos} (ok : XOk Z X) (bk : BlkOk X.N X.env.scope scope own) (ho : own.map (·.2) = slotsT t) (hi : PI X tg iter (tI Z gi))
    (hg : ∀ (s : Shared) (H : Hp) (C : Addr) (cl : List (Str × Addr)) (fp : List Addr), PG (X.blk s H scope (compEnvC scope cl C X.env) fp) tg (gT Z.quiet t))
    (ht : ∀ (s : Shared) (H : Hp) (C : Addr) (cl : List (Str × Addr)) (fp : List Addr), PTs (X.blk s H scope (compEnvC scope cl C X.env) fp) ifs (tGT Z.quiet gc))
    (he : ∀ (s : Shared) (H : Hp) (C : Addr) (cl : List (Str × Addr)) (fp : List Addr), PE (X.blk s H scope (compEnvC scope cl C X.env) fp) elt (tG Z.quiet ge)) (hs : ∀ x, foldedSetIterable iter X.env x = pure x)
    (hy : X.N[i]? = some y) (hyl : X.env.scope.names.lookup y = some .local) (hsw : swapsWith (.ListComp elt [⟨tg, iter, ifs, 0⟩] scope pos) (some (.Name y py)) spos.line X.env = pure true) (hO : i ∉ Z.O) :
    PS X (.Assign [.Name y py] (.ListComp elt [⟨tg, iter, ifs, 0⟩] scope pos) spos) (tS Z fun ρ S => ((gi ρ S).bind fun ds S1 => compL (comp t (compF gc ge) ds (wipeE ρ (slotsT t)) S1)).bind fun d S1 => setI ρ i d S1) := by
  refine PS.imp (ps_setLc ok.calm ok.nd hy hyl hsw hi bk hg ht he hs) fun D σ H ⟨ρ, w, e, wok, r, e0, p⟩ => ?_
  rw [ho]
  refine comp_reading ⟨ρ, w, e, wok, r, (PostS.bind (σ := σ) e0 p).imp fun d w1 e1 ok1 ⟨e2, p1⟩ v rv => ?_⟩
  unfold setI at p1
  split at p1
  · rename_i hl
    exact p1 (σ.set i (some v)) w1 (ExtF.refl w1) e2 ok1 rfl ((r.ext e1).set hl hO rv)
  · exact p1.elim
end
end
end RB

set_option Elab.async false
set_option linter.all false
set_option maxRecDepth 100000
set_option maxHeartbeats 4000000
set_option autoImplicit false
/-! isinstance, methods. -/
namespace RB
open PySem PySem.Spec PyProof.Rows L2

def tyName : D → String
  | .non => "NoneType"
  | .bl _ => "bool"
  | .int _ => "int"
  | .str _ => "str"
  | .tup _ => "tuple"
  | _ => "list"
def tyStr : Ty → String
  | .int => "int"
  | .bool => "bool"
  | .str => "str"
  | .tuple => "tuple"
  | .list => "list"
theorem typ_rep {G : Hd} {w : Wd} {d : D} {v : V} (ok : WOk G w) (ht : typed d = true) (r : RepV G w.F w.M d v) : TyX G.K w.H v (.type (tyName d)) := by
  cases d with
  | non => rw [rep_non] at r; subst r; exact .base .non
  | bl b => rw [rep_bl] at r; subst r; exact .base (.bl b)
  | int i => rw [rep_int] at r; subst r; exact .base (.int i)
  | str s => rw [rep_str] at r; subst r; exact .base (.str _)
  | tup ds =>
    obtain ⟨a, vs, rfl, q, l⟩ := rep_tup.mp r
    rcases ok.sub.sqT q with (q | ⟨o, q⟩) | ⟨o, its, n, e, c, _⟩
    · exact .base (.tup q)
    · exact .fTuple q
    · exact .kTuple e c
  | lst ds =>
    obtain ⟨a, vs, rfl, q, l⟩ := rep_lst.mp r
    exact .base (.lst (ok.sub _ _ q))
  | _ => cases ht
theorem kit_d (K : PySem.W.Frag) {d : D} (ht : typed d = true) (t : Ty) : PySem.W.kitOne K (.type (tyName d)) (.type (tyStr t)) = some (isTy d t) := by
  cases d <;> first | (cases ht; done) | (cases t <;> exact kit_ty (by simp only [tyName, tyStr, isTy]; decide +kernel))
theorem boot_ty (t : Ty) : bootBuiltins (Str.ofString (tyStr t)) = some (.type (tyStr t)) := by cases t <;> decide +kernel
theorem ty_nm (t : Ty) : Str.ofString (tyStr t) ≠ "__name__" := by cases t <;> decide +kernel
theorem ty_dbg (t : Ty) : (Str.ofString (tyStr t) == ("__debug__" : Str)) = false := by cases t <;> decide +kernel
theorem boot_isi : bootBuiltins "isinstance" = some (.builtin "isinstance") := by decide +kernel
section
variable {Z : Fm} {X : Cx} {a b : Expr} {ga gb : Env → Store → R D} {pos : Pos}
theorem g_isi (ok : XOk Z X) {t : Ty} {p p2 : Pos} (hg : Gl X "isinstance") (hm : X.mg "isinstance" = none) (hgt : Gl X (Str.ofString (tyStr t))) (hmt : X.mg (Str.ofString (tyStr t)) = none) (ha : PE X a (tG Z ga))
    (hst : starEach [a, .Name (Str.ofString (tyStr t)) p2] X.env = (false, eval a X.env) :: starEach [.Name (Str.ofString (tyStr t)) p2] X.env) :
    PE X (.Call (.Name "isinstance" p) [a, .Name (Str.ofString (tyStr t)) p2] [] pos) (tG Z fun ρ S => (ga ρ S).bind fun x S1 => if typed x then .ok (.bl ([t].any (isTy x))) S1 else .no) := by
  refine PE.imp (pe_callB call_isi hg hm boot_isi (pa_cons ha (pa_cons (pe_bltn (v := .ty (tyStr t)) hgt hmt (boot_ty t) rfl (ty_nm t) (ty_dbg t)) pa_nil rfl) hst) (by decide) (by decide) hst rfl) fun σ H Q h => ?_
  refine (run1 (k := fun _ x S1 => if typed x then .ok (.bl ([t].any (isTy x))) S1 else .no) h).imp fun v H1 ⟨ρ, x, w, e, ok1, r, rx, p⟩ => ?_
  split at p
  · rename_i hty
    refine ⟨v, .ty (tyStr t), .type (tyName x), .type (tyStr t), isTy x t, rfl, .ty _, ?_, kit_d _ hty t, ?_⟩
    · rw [ok.hK, ← e]
      exact typ_rep ok1 hty rx
    · rw [← e]
      exact p w (Ext.refl w) ok1 rfl _ (rep_bl.mpr (by simp))
  · exact p.elim
theorem kitAny_d (K : PySem.W.Frag) {d : D} (ht : typed d = true) : ∀ ts : List Ty, PySem.W.kitAny K (.type (tyName d)) (ts.map fun t => .type (tyStr t)) = some (ts.any (isTy d))
  | [] => kitAny_nil
  | t :: ts => by
    refine kitAny_cons (b := isTy d t) (kit_d K ht t) (fun hb => ?_) fun hb => ?_
    · rw [List.any_cons, hb, Bool.false_or]
      exact kitAny_d K ht ts
    · rw [List.any_cons, hb, Bool.true_or]
/-- names of types -/
def tyNames : List Ty → List Expr → Bool
  | [], [] => true
  | t :: ts, .Name x _ :: es => x == Str.ofString (tyStr t) && tyNames ts es
  | _, _ => false
theorem pa_types (hm : ∀ t : Ty, Gl X (Str.ofString (tyStr t)) → X.mg (Str.ofString (tyStr t)) = none) : ∀ {ts : List Ty} {es : List Expr}, tyNames ts es = true → (ts.all fun t => X.env.scope.names.lookup (Str.ofString (tyStr t)) == some NameKind.globalImplicit) = true → PA X es fun _ H Q => Q (ts.map fun t => V.ty (tyStr t)) H
  | [], es, h, hg => by
    cases es with
    | nil => exact pa_nil
    | cons e es => simp [tyNames] at h
  | t :: ts, [], h, hg => by simp [tyNames] at h
  | t :: ts, e :: es, h, hg => by
    cases e <;> try (simp [tyNames] at h; done)
    rename_i x p
    simp only [tyNames, Bool.and_eq_true, beq_iff_eq] at h
    obtain ⟨rfl, h⟩ := h
    simp only [List.all_cons, Bool.and_eq_true, beq_iff_eq] at hg
    have hgt : Gl X (Str.ofString (tyStr t)) := hg.1
    exact PA.imp (pa_cons (pe_bltn (v := .ty (tyStr t)) hgt (hm t hgt) (boot_ty t) rfl (ty_nm t) (ty_dbg t)) (pa_types hm h hg.2) rfl) fun σ H Q q => q
theorem vals_ty : ∀ ts : List Ty, Paired ClsV (ts.map fun t => V.ty (tyStr t)) (ts.map fun t => Value.type (tyStr t))
  | [] => .nil
  | _ :: ts => .cons (.ty _) (vals_ty ts)
theorem g_isiT (ok : XOk Z X) {ts : List Ty} {es : List Expr} {kk : Nat} {p p2 : Pos} (hg : Gl X "isinstance") (hm : X.mg "isinstance" = none) (hmt : ∀ t : Ty, Gl X (Str.ofString (tyStr t)) → X.mg (Str.ofString (tyStr t)) = none)
    (hn : tyNames ts es = true) (hgt : (ts.all fun t => X.env.scope.names.lookup (Str.ofString (tyStr t)) == some NameKind.globalImplicit) = true) (hl : ts.length ≤ LIM) (ha : PE X a (tG Z ga))
    (hst : starEach [a, .Tuple es kk p2] X.env = (false, eval a X.env) :: starEach [.Tuple es kk p2] X.env) :
    PE X (.Call (.Name "isinstance" p) [a, .Tuple es kk p2] [] pos) (tG Z fun ρ S => (ga ρ S).bind fun x S1 => if typed x then .ok (.bl (ts.any (isTy x))) S1 else .no) := by
  refine PE.imp (pe_callB call_isiT hg hm boot_isi (pa_cons ha (pa_cons (pe_tup (pa_types hmt hn hgt)) pa_nil rfl) hst) (by decide) (by decide) hst rfl) fun σ H Q h => ?_
  refine (run1 (k := fun _ x S1 => if typed x then .ok (.bl (ts.any (isTy x))) S1 else .no) h).imp fun v H1 ⟨ρ, x, w, e, ok1, r, rx, p⟩ => ?_
  split at p
  · rename_i hty
    refine ⟨by rw [List.length_map]; exact lim_line hl, fun q n => ?_⟩
    subst e
    have ok2 := ok1.new (o := .tup (ts.map fun t => V.ty (tyStr t))) n (fun ps z => by cases z)
    have x2 := Wd.new_ext ok1.sub (o := .tup (ts.map fun t => V.ty (tyStr t))) n
    refine ⟨v, q, _, .type (tyName x), _, ts.any (isTy x), rfl, upd_same, vals_ty ts, ?_, kitAny_d _ hty ts, ?_⟩
    · rw [ok.hK]
      exact typ_rep ok2 hty (rx.ext x2)
    · exact p _ x2 ok2 rfl _ (rep_bl.mpr rfl)
  · exact p.elim
end
end RB

set_option Elab.async false
set_option linter.all false
set_option maxRecDepth 100000
set_option maxHeartbeats 4000000
set_option autoImplicit false
/-! Looks at the texts: what the rules ask of an expression's form, as truth values. -/
namespace RB
open PySem PySem.Spec PyProof.Rows L2

def noStar : Expr → Bool
  | .Starred _ _ => false
  | _ => true
theorem star_ok {e : Expr} (h : noStar e = true) (es : List Expr) (env : PySem.Env) : starEach (e :: es) env = (false, eval e env) :: starEach es env := by
  cases e <;> first | rfl | (cases h; done)
theorem back_ok {es : List Expr} (h : es.all noStar = true) (p : Pos) (env : PySem.Env) : (backTo p (starEach es env)).any (·.1) = false := by
  induction es with
  | nil => rfl
  | cons e es ih =>
    simp only [List.all_cons, Bool.and_eq_true] at h
    rw [star_ok h.1]
    exact ih h.2
theorem asg_ok {e : Expr} (h : noStar e = true) (es : List Expr) (env : PySem.Env) : assignEach (e :: es) env = (false, assign e env) :: assignEach es env := by
  cases e <;> first | rfl | (cases h; done)
theorem asg_len {es : List Expr} {env : PySem.Env} : (assignEach es env).length = es.length := by
  induction es with
  | nil => rfl
  | cons e es ih => cases e <;> exact congrArg Nat.succ ih
theorem asg_none {es : List Expr} (h : es.all noStar = true) (env : PySem.Env) : (assignEach es env).findIdx? (·.1) = none := by
  induction es with
  | nil => rfl
  | cons e es ih =>
    simp only [List.all_cons, Bool.and_eq_true] at h
    rw [asg_ok h.1, List.findIdx?_cons]
    simp [ih h.2]
def plainIxB : Expr → Bool
  | .Slice _ _ _ _ => false
  | _ => true
theorem ix_ok {e : Expr} (h : plainIxB e = true) : PlainIx e := fun o i => by
  cases e <;> first | rfl | (cases h; done)
def plainTB : Expr → Bool
  | .UnaryOp _ _ _ => false
  | .BoolOp _ _ _ => false
  | .IfExp _ _ _ _ => false
  | .Compare _ _ _ _ => false
  | _ => true
theorem plain_ok {e : Expr} (h : plainTB e = true) (env : PySem.Env) (whole : Sem Value) : isTrue e env whole = (do let v ← whole; standAt e.pos; holding [v] (truthy v)) := by
  cases e <;> first | rfl | (cases h; done)
def baseB : Expr → Bool
  | .Name _ _ => true
  | .Constant _ _ _ => true
  | .Subscript _ _ _ => true
  | .Attribute _ _ _ => true
  | .BinOp _ _ _ _ => true
  | _ => false
theorem base_ok {e : Expr} (h : baseB e = true) (attr : Str) (env : PySem.Env) : attributeBase e attr env (eval e env) = eval e env := by
  cases e <;> first | rfl | (cases h; done)
def noComp : Expr → Bool
  | .ListComp _ _ _ _ => false
  | .SetComp _ _ _ _ => false
  | .DictComp _ _ _ _ _ => false
  | _ => true
theorem swap_ok {e : Expr} (h : noComp e = true) (t : Option Expr) (l : Nat) (env : PySem.Env) : swapsWith e t l env = pure false := by
  cases e <;> first | rfl | (cases h; done)
theorem sole_ok {e : Expr} (h : noComp e = true) (ts : List Expr) (l : Nat) (env : PySem.Env) : swapsWithSole ts e l env = pure false := by
  match ts with
  | [] => rfl
  | [t] => exact swap_ok h _ _ _
  | _ :: _ :: _ => rfl
def noSet : Expr → Bool
  | .Set _ _ _ => false
  | _ => true
theorem fold_ok {e : Expr} (h : noSet e = true) (env : PySem.Env) (x : Value) : foldedSetIterable e env x = pure x := by
  cases e <;> first | rfl | (cases h; done)
/-- [..] stored by a name on the same line -/
def compSwap (sc : Scope) (x : Str) (pl : Nat) (scope : Scope) (cl : Nat) : Bool :=
  sc.names.lookup x == some .local && pl == cl && !(scope.names.any fun (n, k) => n == x && (k == .local || k == .cell))
theorem compSwap_ok {elt : Expr} {gs : List Comprehension} {scope : Scope} {pos p : Pos} {x : Str} {l : Nat} {env : PySem.Env} (hk : env.scope.kind = .function) :
    swapsWith (.ListComp elt gs scope pos) (some (.Name x p)) l env = pure (compSwap env.scope x p.line scope pos.line) := by
  unfold swapsWith compSwap
  have e : env.blockKind = .function := by
    unfold Env.blockKind
    rw [hk]
    rfl
  simp only [pure_bind]
  rw [e]
  rfl
def starred : Expr → Bool
  | .Starred _ _ => true
  | _ => false
def parName (sc : Scope) (l : Nat) : Expr → Option Str
  | .Name id pos => if sc.names.lookup id == some .local && pos.line == l then some id else none
  | _ => none
/-- what tuple stores swap -/
def swapB (sc : Scope) (ts vs : List Expr) : Option (Option (List Str)) :=
  if !(ts.length == 2 || ts.length == 3) || vs.length != ts.length then some none
  else if vs.any starred then some none
  else if (ts.filterMap (parName sc ((ts.head?.map (·.pos.line)).getD 0))).length != ts.length || (ts.filterMap (parName sc ((ts.head?.map (·.pos.line)).getD 0))).eraseDups.length != (ts.filterMap (parName sc ((ts.head?.map (·.pos.line)).getD 0))).length then some none
  else if vs.all (foldedForSure 8) then some none
  else if vs.all (constantsAlone 8) then none
  else some (some (ts.filterMap (parName sc ((ts.head?.map (·.pos.line)).getD 0))))
theorem starred_eq : starred = (fun | .Starred .. => true | _ => false) := by
  funext e
  cases e <;> rfl
theorem swapB_ok {ts vs : List Expr} {k k2 : Nat} {p p2 : Pos} {env : PySem.Env} {r : Option (List Str)} (hk : env.scope.kind = .function) (h : swapB env.scope ts vs = some r) : swappedStores [.Tuple ts k p] (.Tuple vs k2 p2) env = pure r := by
  have e : env.blockKind = .function := by
    unfold Env.blockKind
    rw [hk]
    rfl
  have nb : (ScopeKind.function != ScopeKind.function) = false := by decide
  have key : swappedStores [.Tuple ts k p] (.Tuple vs k2 p2) env = (if (!(ts.length == 2 || ts.length == 3) || vs.length != ts.length || env.blockKind != .function) then pure none
      else if vs.any starred then pure none
      else if (ts.filterMap (parName env.scope ((ts.head?.map (·.pos.line)).getD 0))).length != ts.length || (ts.filterMap (parName env.scope ((ts.head?.map (·.pos.line)).getD 0))).eraseDups.length != (ts.filterMap (parName env.scope ((ts.head?.map (·.pos.line)).getD 0))).length then pure none
      else if vs.all (foldedForSure 8) then pure none
      else if vs.all (constantsAlone 8) then (do unsupported "assign.tuple-of-constant-expressions:order-of-the-stores"; pure (some (ts.filterMap (parName env.scope ((ts.head?.map (·.pos.line)).getD 0)))))
      else pure (some (ts.filterMap (parName env.scope ((ts.head?.map (·.pos.line)).getD 0))))) := by
    have h1 : parName env.scope ((ts.head?.map (·.pos.line)).getD 0) = (fun
        | .Name id pos => if env.kindOf id == some .local && pos.line == (ts.head?.map (·.pos.line)).getD 0 then some id else none
        | _ => none) := by
      funext x
      cases x <;> rfl
    rw [starred_eq, h1]
    unfold swappedStores
    simp only [pure_bind]
    rfl
  rw [key, e, nb, Bool.or_false]
  unfold swapB at h
  split at h
  · rename_i hc
    cases h
    exact if_pos hc
  rename_i hc
  rw [if_neg hc]
  split at h
  · rename_i hc
    cases h
    exact if_pos hc
  rename_i hc
  rw [if_neg hc]
  split at h
  · rename_i hc
    cases h
    exact if_pos hc
  rename_i hc
  rw [if_neg hc]
  split at h
  · rename_i hc
    cases h
    exact if_pos hc
  rename_i hc
  rw [if_neg hc]
  split at h
  · cases h
  rename_i hc
  rw [if_neg hc]
  cases h
  rfl
end RB

set_option Elab.async false
set_option linter.all false
set_option maxRecDepth 100000
set_option maxHeartbeats 8000000
set_option autoImplicit false
/-! sorted(set(xs)) of a list of ints. -/
namespace RB
open PySem PySem.Spec PyProof.Rows L2

/-- a set as it is made -/
abbrev freshS (w : World) : Obj := { cls := .type "set", dict := none, data := .set #[] 0 (.fresh 0 0 (!w.params.followText "set-order")) }
/-- a list's iterator as it is made -/
abbrev freshI (l : Addr) : Obj := { cls := .type "list_iterator", data := .fields #[.ref l, .int 0 0] }
section
variable {P : Program} {w : World} {A : Around} {E : Value → Shared → Prop} {s : Shared}
/-- what set(xs) leaves -/
def SetMade (w : World) (ns : List Int) (s : Shared) (Q : Value → Shared → Prop) : Prop :=
  ∀ (h' : Heap) (tk c : Nat), SetR w h' s.heap.objs.size (fun j => decide (j ∈ ns)) c → c ≤ ns.length → (∀ b o, s.heap.get? b = some o → h'.get? b = some o) → Q (.ref s.heap.objs.size) { s with heap := h', toks := tk }
/-- set.__init__ over a list -/
theorem init_setL {l : Addr} {items : Array Value} (ns : List Int) (hh : A.handled = none) (hl : s.heap.IsList l items) (hit : IntsAre items.toList ns) (hb : ns.length + 1 < scanBound) {R : Result → Shared → Prop}
    (h : ∀ (h' : Heap) (tk c : Nat), SetR w h' s.heap.objs.size (fun j => decide (j ∈ ns)) c → c ≤ ns.length → (∀ b o, s.heap.get? b = some o → h'.get? b = some o) → R (.ok (.ret .none)) { s with heap := h', toks := tk }) :
    codeAny (model P w) A (.call (.builtin "set.__init__") ⟨[.ref s.heap.objs.size, .ref l], []⟩) R { s with heap := s.heap.push (freshS w) } := by
  have hisz : items.size = ns.length := (Array.length_toList (xs := items)).symm.trans (IntsAre.length hit)
  have hS : (s.heap.push (freshS w)).get? s.heap.objs.size = some (freshS w) := Heap.get?_push_size _ rfl
  have hT : Shared.TypeIs { s with heap := s.heap.push (freshS w) } (.ref s.heap.objs.size) "set" := ⟨_, hS, rfl⟩
  refine codeAny_call_builtin F.called_set.init.plain F.entry_set_init (check_set_init_1 hT ?_)
  obtain ⟨ol, hol, hcl, nl, hdl⟩ := hl
  obtain ⟨oc, od, odt, osl⟩ := ol
  dsimp only at hcl hdl
  subst hcl
  subst hdl
  have at1 : (s.heap.push (freshS w)).get? l = some { cls := .type "list", dict := od, data := .seq items nl, slots := osl } := Heap.get?_push_of_some _ hol
  have k1 := F.sub_list_set
  have k2 := F.sub_list_frozenset
  have k3 : (Value.type "list" == Value.type "dict") = false := by decide
  have is1 : (s.heap.push (freshS w)).IsList l items := ⟨_, at1, rfl, nl, rfl⟩
  have lS : l < s.heap.objs.size := Heap.lt_size hol
  have zs : (s.heap.push (freshS w)).objs.size = s.heap.objs.size + 1 := Heap.size_push ..
  unfold Builtin.«set.__init__» noKeywords Builtin.Frozenset.updateFrom
  generalize eI : pyIter = PI
  wp_walk
  subst eI
  refine wpAny_pyIter_list is1 (wpAny_bind (wpAny_runValue ?_))
  have h3 : A.in1.in1.handled = none := hh
  have ne1 : l ≠ (s.heap.push (freshS w)).objs.size := by
    rw [zs]
    exact Nat.ne_of_lt (Nat.lt_succ_of_lt lS)
  have nf : s.heap.objs.size ∉ [(s.heap.push (freshS w)).objs.size, l] := by
    rw [zs]
    simp only [List.mem_cons, List.not_mem_nil, or_false, not_or]
    exact ⟨Nat.ne_of_lt (Nat.lt_succ_self _), Nat.ne_of_gt lS⟩
  have val : ∀ (i : Nat) (v : Value), items[i]? = some v → ∃ k t, ns[i]? = some k ∧ v = .int k t := fun i v hv => by
    have hi : i < ns.length := hisz ▸ (Array.getElem?_eq_some_iff.mp hv).1
    obtain ⟨t, e⟩ := IntsAre.int_at hit i v (by rw [Array.getElem?_toList]; exact hv)
    exact ⟨ns[i], t, List.getElem?_eq_getElem hi, by rw [e, List.getD_eq_getElem?_getD, List.getElem?_eq_getElem hi]; rfl⟩
  refine set_update_ints ((Walks.list h3 _ l ne1 items).toS) s.heap.objs.size nf ns hisz hb val (items.size - 0) 0 _ rfl (Nat.zero_le _) ?st1 ?st0 ?fin
  case st1 => exact ⟨⟨_, Heap.get?_push_size _ rfl, rfl, rfl⟩, is1.push _⟩
  case st0 => exact ⟨0, Nat.le_refl 0, setR_new_at (Heap.get?_push_of_some _ hS)⟩
  case fin =>
    intro s' c' hm hc hR
    obtain ⟨h', g', d', tk', os'⟩ := s'
    obtain rfl : g' = s.gens := hm.gens
    obtain rfl : d' = s.drawn := hm.drawn
    obtain rfl : os' = s.os := hm.os
    show wpAny _ _ _ _ _ _
    refine wpAny_pure ?_
    show wpAny _ _ (ret Value.none) _ _ _
    refine wpAny_pure (h h' tk' c' hR (hisz ▸ hc) fun b o e => ?_)
    have lb : b < s.heap.objs.size := Heap.lt_size e
    refine hm.heap b o ?_ (Heap.get?_push_of_some _ (Heap.get?_push_of_some _ e))
    rw [zs]
    simp only [List.mem_cons, List.not_mem_nil, or_false, not_or]
    exact ⟨Nat.ne_of_lt lb, Nat.ne_of_lt (Nat.lt_succ_of_lt lb)⟩
theorem call_setL {l : Addr} {items : Array Value} (ns : List Int) {Q : Value → Shared → Prop} (hh : A.handled = none) (hl : s.heap.IsList l items) (hit : IntsAre items.toList ns) (hb : ns.length + 1 < scanBound) (h : SetMade w ns s Q) :
    wpAny (model P w) A (call (.type "set") [.ref l]) Q E s := by
  obtain ⟨c, tl, hmro⟩ := F.called_set.mro
  have m1 := F.called_set.made
  have m2 := F.called_set.sub
  refine wpAny_call (codeAny_of_tree (show wpAny _ _ (callAny (.type "set") _) _ _ _ from wpAny_pure ⟨Code.quiet_builtin _ (by decide +kernel), codeAny_builtin F.entry_type_call ?_⟩))
  rw [Around.under_plain (weight_type_call_type "set" [.ref l] []) rfl]
  have m3 := F.called_set.notType
  have m4 := F.called_set.canCreate
  have m5 := F.typeCall_set_1 (.ref l)
  repeat (any_goals (first | assumption | wp_step))
  refine codeAny_mono (code_set_led1 (.ref l) (E := E) (Q₁ := fun v s' => v = .ref s.heap.objs.size ∧ s' = { s with heap := s.heap.push (freshS w) }) ⟨rfl, rfl⟩) fun r s' hr => ?_
  match r, hr with
  | .error e, hr => exact hr
  | .ok (.ret v), hr =>
    obtain ⟨rfl, rfl⟩ := hr
    have got : (s.heap.push (freshS w)).get? s.heap.objs.size = some (freshS w) := Heap.get?_push_size _ rfl
    have ty : Shared.TypeIs { s with heap := s.heap.push (freshS w) } (.ref s.heap.objs.size) "set" := ⟨_, got, rfl⟩
    have n1 := F.called_set.init.lookup
    have n2 := F.called_set.init.bind (.ref s.heap.objs.size)
    repeat (any_goals (first | assumption | wp_step))
    refine codeAny_mono (init_setL (R := wants (fun v s' => v = .none ∧ ∃ h' tk c, s' = { s with heap := h', toks := tk } ∧ SetR w h' s.heap.objs.size (fun j => decide (j ∈ ns)) c ∧ c ≤ ns.length ∧ (∀ b o, s.heap.get? b = some o → h'.get? b = some o)) E) ns (P := P) (A := A.in1) hh hl hit hb fun h' tk c a b d => ⟨rfl, h', tk, c, rfl, a, b, d⟩) fun r s' hr => ?_
    match r, hr with
    | .error e, hr => exact hr
    | .ok (.ret v), hr =>
      obtain ⟨rfl, h', tk, c', rfl, a, b, d⟩ := hr
      repeat (any_goals (first | assumption | wp_step))
      exact h _ _ _ a b d
    | .ok .next, hr => exact hr.elim
    | .ok .brk, hr => exact hr.elim
    | .ok .cont, hr => exact hr.elim
  | .ok .next, hr => exact hr.elim
  | .ok .brk, hr => exact hr.elim
  | .ok .cont, hr => exact hr.elim
end
end RB

set_option Elab.async false
set_option linter.all false
set_option maxRecDepth 100000
set_option maxHeartbeats 4000000
set_option autoImplicit false
/-! sorted(set(xs)): its rule. -/
namespace RB
open PySem PySem.Spec PyProof.Rows L2

/-! ### rising lists -/
theorem insertI_mem {x y : Int} : ∀ {l : List Int}, y ∈ insertI x l ↔ y = x ∨ y ∈ l
  | [] => by simp [insertI]
  | z :: r => by
    unfold insertI
    split
    · simp
    · split
      · rename_i h
        subst h
        simp
      · simp only [List.mem_cons, insertI_mem]
        constructor
        · rintro (h | h | h)
          · exact .inr (.inl h)
          · exact .inl h
          · exact .inr (.inr h)
        · rintro (h | h | h)
          · exact .inr (.inl h)
          · exact .inl h
          · exact .inr (.inr h)
theorem insertI_rises {x : Int} : ∀ {l : List Int}, l.Pairwise (· < ·) → (insertI x l).Pairwise (· < ·)
  | [], _ => by simp [insertI]
  | z :: r, h => by
    obtain ⟨h1, h2⟩ := List.pairwise_cons.mp h
    unfold insertI
    split
    · rename_i hx
      refine List.pairwise_cons.mpr ⟨fun y hy => ?_, h⟩
      rcases List.mem_cons.mp hy with e | e
      · rw [e]; exact hx
      · have := h1 y e; omega
    · split
      · exact h
      · refine List.pairwise_cons.mpr ⟨fun y hy => ?_, insertI_rises h2⟩
        rcases insertI_mem.mp hy with e | e
        · omega
        · exact h1 y e
theorem risingOf_mem {y : Int} : ∀ {l : List Int}, y ∈ risingOf l ↔ y ∈ l
  | [] => by simp [risingOf]
  | x :: r => by simp only [risingOf, insertI_mem, risingOf_mem, List.mem_cons]
theorem risingOf_rises : ∀ {l : List Int}, (risingOf l).Pairwise (· < ·)
  | [] => List.Pairwise.nil
  | _ :: _ => insertI_rises risingOf_rises
theorem rises_one : ∀ {a b : List Int}, a.Pairwise (· < ·) → b.Pairwise (· < ·) → (∀ k, k ∈ a ↔ k ∈ b) → a = b
  | [], [], _, _, _ => rfl
  | [], y :: b, _, _, h => absurd ((h y).mpr List.mem_cons_self) (by simp)
  | x :: a, [], _, _, h => absurd ((h x).mp List.mem_cons_self) (by simp)
  | x :: a, y :: b, ha, hb, h => by
    obtain ⟨h1, h2⟩ := List.pairwise_cons.mp ha
    obtain ⟨h3, h4⟩ := List.pairwise_cons.mp hb
    have e : x = y := by
      rcases List.mem_cons.mp ((h x).mp List.mem_cons_self) with z | z
      · exact z
      · rcases List.mem_cons.mp ((h y).mpr List.mem_cons_self) with u | u
        · exact u.symm
        · have := h3 x z
          have := h1 y u
          omega
    subst e
    congr 1
    refine rises_one h2 h4 fun k => ⟨fun hk => ?_, fun hk => ?_⟩
    · rcases List.mem_cons.mp ((h k).mp (List.mem_cons_of_mem _ hk)) with z | z
      · have := h1 k hk
        omega
      · exact z
    · rcases List.mem_cons.mp ((h k).mpr (List.mem_cons_of_mem _ hk)) with z | z
      · have := h3 k hk
        omega
      · exact z

section
variable {X : Cx}
def rSetL (K : PySem.W.Frag) (w : World) : List V → Hp → VK → Prop := fun xs H Q => ∃ (l : Addr) (ns : List Int), xs = [.ref l] ∧ SqL K H l (ns.map V.int) ∧ ns.length ≤ 60 ∧
  ∀ (p : Addr) (c : Nat), H p = none → c ≤ ns.length → Q (.ref p) (upd H p (SetO w p (fun j => decide (j ∈ ns)) c))
theorem setL_ok (hc : X.calm = true) : CallR X (.type "set") (rSetL X.K X.w) := by
  intro pins s σ H xs us Q I r h
  obtain ⟨l, ns, rfl, hq, hl, q⟩ := h
  rw [Vals.ref1 r]
  obtain ⟨its, rv, pl, hz⟩ := I.list hq
  refine call_setL ns (I.ok.hd hc) pl.isList (by simpa using intsAre_of rv) (by unfold scanBound; omega) fun h' tk c hR hcl hk => ?_
  exact ⟨.ref _, _, I.laid (t' := tk) hk (Nat.le_refl _) (setO_new hR), rfl, q _ c (I.hok.fresh (Nat.le_refl _)) hcl⟩
end
section
variable {Z : Fm} {X : Cx} {a : Expr} {ga : Env → Store → R D} {pos : Pos}
theorem boot_set' : bootBuiltins "set" = some (.type "set") := by decide +kernel
theorem boot_sorted' : bootBuiltins "sorted" = some (.builtin "sorted") := by decide +kernel
theorem g_sortset (ok : XOk Z X) {p p2 q : Pos} (hg : Gl X "sorted") (hm : X.mg "sorted" = none) (hg2 : Gl X "set") (hm2 : X.mg "set" = none) (ha : PE X a (tG Z ga)) (hst : starEach [a] X.env = (false, eval a X.env) :: starEach [] X.env) :
    PE X (.Call (.Name "sorted" p) [.Call (.Name "set" p2) [a] [] q] [] pos) (tG Z fun ρ S => (ga ρ S).bind fun d S1 => .of (bi .sortset d) S1) := by
  refine PE.imp (pe_callB (cr_sortedSet ok.calm) hg hm boot_sorted' (pa_cons (pe_callTy (setL_ok ok.calm) hg2 hm2 boot_set' (pa_cons ha pa_nil hst) (by decide) (by decide) hst rfl) pa_nil rfl) (by decide) (by decide) rfl rfl) fun σ H Q h => ?_
  refine (run1 (k := fun _ d S1 => .of (bi .sortset d) S1) h).imp fun v H1 ⟨ρ, x, w, e, ok1, r, rx, p⟩ => ?_
  obtain ⟨d, e1, k⟩ := p.of ok1
  cases x <;> try (cases e1; done)
  rename_i xs
  simp only [bi] at e1
  obtain ⟨ns, e2, e3⟩ := Option.bind_eq_some_iff.mp e1
  have e4 := intsOf_some e2
  subst e4
  split at e3
  · rename_i hlen
    cases e3
    obtain ⟨l, vs, rfl, hl, rl⟩ := rep_lst.mp rx
    have ev := rl.ints
    subst ev
    subst e
    refine ⟨l, ns, rfl, .of (ok1.sub _ _ hl), hlen, fun p c np hcl => ?_⟩
    refine ⟨p, _, c, rfl, upd_same, by omega, fun ns' p' pw mem len np' => ?_⟩
    have en : ns' = risingOf ns := rises_one pw risingOf_rises fun k => by rw [mem, risingOf_mem, decide_eq_true_eq]
    subst en
    have okA := ok1.new (o := SetO X.w p (fun j => decide (j ∈ ns)) c) np (fun ps z => by cases z)
    have xA := Wd.new_ext ok1.sub (o := SetO X.w p (fun j => decide (j ∈ ns)) c) np
    exact k (((w.new p (SetO X.w p (fun j => decide (j ∈ ns)) c)).new p' (.lst ((risingOf ns).map V.int)))) (xA.trans (Wd.new_ext okA.sub np')) (okA.new np' (fun ps z => by cases z)) rfl _ (rep_newL okA np' (RepL.of_ints _))
  · cases e3
end
end RB

set_option Elab.async false
set_option linter.all false
set_option maxRecDepth 100000
set_option maxHeartbeats 4000000
set_option autoImplicit false
namespace RB
open PySem PySem.Spec PyProof.Rows L2

/-! ### plain parameters -/
theorem zip_look {ps : List Str} {us : List Value} (nd : ps.Nodup) (hl : us.length = ps.length) : ps.filterMap (fun n => ((ps.zip us).lookup n).map (n, ·)) = ps.zip us := by
  have gen : ∀ (qs : List Str) (ws : List Value) (L : List (Str × Value)), qs.Nodup → ws.length = qs.length → (∀ n ∈ qs, L.lookup n = (qs.zip ws).lookup n) → qs.filterMap (fun n => (L.lookup n).map (n, ·)) = qs.zip ws := by
    intro qs
    induction qs with
    | nil => intro ws L _ _ _; rfl
    | cons q qs ih =>
      intro ws L nd hl hL
      cases ws with
      | nil => simp at hl
      | cons w ws =>
        have h0 := hL q List.mem_cons_self
        rw [List.zip_cons_cons, List.lookup_cons_self] at h0
        rw [List.filterMap_cons, h0]
        simp only [Option.map_some, List.zip_cons_cons]
        congr 1
        refine ih ws L (List.nodup_cons.mp nd).2 (by simpa using hl) fun n hn => ?_
        have hne : n ≠ q := fun z => (List.nodup_cons.mp nd).1 (z ▸ hn)
        rw [hL n (List.mem_cons_of_mem _ hn), List.zip_cons_cons, List.lookup_cons]
        rw [show (n == q) = false by simpa using hne]
  exact gen ps us _ nd hl fun _ _ => rfl
theorem missing_none {ps : List Str} {us : List Value} (hl : us.length = ps.length) : ps.filter (fun n => ((ps.zip us).lookup n).isNone) = [] := by
  rw [List.filter_eq_nil_iff]
  intro n hn
  have : ∀ (qs : List Str) (ws : List Value), ws.length = qs.length → n ∈ qs → ((qs.zip ws).lookup n).isNone = false := by
    intro qs
    induction qs with
    | nil => intro ws _ h; cases h
    | cons q qs ih =>
      intro ws hl h
      cases ws with
      | nil => simp at hl
      | cons w ws =>
        rw [List.zip_cons_cons, List.lookup_cons]
        cases e : n == q with
        | true => rfl
        | false =>
          have hne : n ≠ q := by simpa using e
          rcases List.mem_cons.mp h with z | z
          · exact absurd z hne
          · exact ih ws (by simpa using hl) z
  simp [this ps us hl hn]
theorem binds_any {fd : FuncData} {as : List Arg} {kwd : List (Option Expr)} {us : List Value} (hp : fd.params = ⟨[], as, none, [], kwd, none, []⟩) (hd : fd.defaults = .none) (nd : (as.map (·.arg)).Nodup) (hl : us.length = (as.map (·.arg)).length) :
    bindArgs fd ⟨us, []⟩ = pure ((as.map (·.arg)).zip us) := by
  have h1 : (decide (us.length > (as.map (·.arg)).length)) = false := by simp [hl]
  have h2 : seqItems? Value.none = pure none := rfl
  unfold bindArgs
  simp only [hp, hd, List.map_nil, List.nil_append, List.append_nil, List.forIn_nil, pure_bind, List.zip_nil_right, List.drop_nil, List.length_nil, Nat.sub_zero, List.take_length, h2, h1, Bool.false_and, Bool.false_eq_true, if_false,
    Option.getD_none, Array.toList_empty, missing_none hl, List.isEmpty_nil, Bool.not_true, List.drop_length, List.zip_nil_left, zip_look nd hl]
theorem binds_plain {x q : Str} {as : List Arg} {kwd : List (Option Expr)} {body : List Stmt} {scope : Scope} {kV doc pm cdv ct : Value} {an : Option Addr} {us : List Value} (nd : (as.map (·.arg)).Nodup) (hl : us.length = (as.map (·.arg)).length) :
    bindArgs (PySem.W.fnOf x q ⟨[], as, none, [], kwd, none, []⟩ body scope .none kV doc pm an cdv ct) ⟨us, []⟩ = pure ((as.map (·.arg)).zip us) := binds_any rfl rfl nd hl

end RB

set_option Elab.async false
set_option linter.all false
set_option maxRecDepth 100000
set_option maxHeartbeats 4000000
set_option autoImplicit false
/-! super().__init__('..') in an own exception's __init__. -/
namespace RB
open PySem PySem.Spec PyProof.Rows L2

section
variable {X : Cx} {pins : List (Addr × Obj)} {σ : L2.St} {H : Hp} {s : Shared}
/-- the bound ValueError.__init__ at u is called -/
theorem bound_init {u a C : Addr} {us : List Value} {Q : Value → Shared → Prop} {E : Value → Shared → Prop} (T : OexC X.K C) (I : Inv X pins σ H s) (e : H a = some (exo a C none)) (hu : s.heap.get? u = some (PySem.W.kxs_mw "ValueError.__init__" a)) (hl : us.length ≤ sizeLine)
    (h : ∀ s', Inv X pins σ H s' → Q .none s') : wpAny (model X.prog X.w) X.A (call (.ref u) us) Q E s := by
  obtain ⟨nm, q, N, bs, bm, sn, sub, ab, col, dd, k0, k1, k2, k3, k5, hC, hbm⟩ := T.cls
  obtain ⟨t1, ho⟩ := exo_at I.hok e
  obtain ⟨hp, g, d, t, os⟩ := s
  refine wpAny_call (codeAny_of_tree ?_)
  show wpAny _ X.A.in1 (callAny (.ref u) ⟨us, []⟩) _ _ _
  simp only [callAny]
  refine wpAny_bind (wpAny_load hu ?_)
  have hcl : (Value.type "method-wrapper" == Value.type "method" || Value.type "method-wrapper" == Value.type "builtin_function_or_method" || Value.type "method-wrapper" == Value.type "method-wrapper") = true := by decide
  simp only [PySem.W.kxs_mw, hcl, if_true]
  refine PySem.W.KFB.if_so (by decide) (wpAny_bind (PySem.W.check_bound_init PySem.F.excBase_ValueError.toExcCallFacts (I.kIn _ _ hC) ho rfl (wpAny_bind (wpAny_pure (wpAny_pure ⟨plainId_quiet PySem.F.excBase_ValueError.init.plain _, codeAny_builtin PySem.F.excBase_ValueError.initEntry ?_⟩)))))
  refine PySem.W.exc_init_tree (cls := .ref C) (t0 := t1) (dv := none) (c2 := .none) (c3 := .none) (b4 := .bool false) ho hl fun h' k hx _ => ?_
  have J := I.write (t' := t) (x := a) (e := a) (o := exo a C none) (by rw [e]; exact True.intro) (.inl rfl) k ⟨_, hx⟩ (exo_ok hx)
  have eu : upd H a (exo a C none) = H := by
    funext b
    by_cases hb : b = a
    · rw [hb, upd_same, e]
    · rw [upd_ne hb]
  rw [eu] at J
  exact h _ J
/-- what super() in the def that runs asks -/
structure SupF (X : Cx) (C f cc cda : Addr) (me : Str) : Prop where
  kind : X.env.scope.kind = .function
  su : X.env.kindOf "super" = some .globalImplicit
  kc : X.env.kindOf "__class__" = some .free
  fu : X.env.func = some f
  fd : ∃ (of : Obj) (fd : FuncData) (ar : Arg), X.K.lookup f = some of ∧ of.data = .func fd ∧ (fd.params.posonlyargs ++ fd.params.args).head? = some ar ∧ ar.arg = me
  co : X.env.code = .ref cda
  cd : ∃ (oc : Obj) (vs : Array Value) (file : Str) (tf : Tok), X.K.lookup cda = some oc ∧ oc.data = .fields vs ∧ vs[2]? = some (.str file tf) ∧ ((X.prog.main.file : Str) == file) = true
  top : (X.prog.main.scope.names.lookup ("super" : Str)).isSome = false
  mg : X.mg "super" = none
  cells : X.env.cells.lookup ("__class__" : Str) = some cc
  cell : ∃ oc : Obj, X.K.lookup cc = some oc ∧ oc.data = .cell (some (.ref C))
  cls : ∃ cd, PySem.W.clsIn X.K C = some cd
  sub : PySem.W.mroIn X.K C (.ref C) = some true
  opq : PySem.W.nsIn X.K cStatics "thirdparty.any" = some none
  ini : PySem.W.ks_superIn X.K C C "__init__" = some (some (.builtin "ValueError.__init__"))
  val : PySem.W.subIn X.K (.ref C) (.type "ValueError") = some true
  oex : OexC X.K C
  N0 : X.N[0]? = some me
  sl : X.env.kindOf me = some .local
theorem boot_super : bootBuiltins "super" = some (.type "super") := by decide +kernel
theorem super_stmt {C f cc cda a : Addr} {me m : Str} {j : Nat} {p0 p1 p2 p3 pos pos' : Pos} {body : List Stmt} {E : Value → Shared → Prop} (S : SupF X C f cc cda me) (I : Inv X pins σ H s) (e : H a = some (exo a C none)) (h0 : σ[0]? = some (some (.ref a))) (hline : (p2.endLine == pos.line) = true) :
    _root_.PySem.wpAt (model X.prog X.w) X.A (.func body X.env) (exec (.Expr (.Call (.Attribute (.Call (.Name "super" p0) [] [] p1) "__init__" p2) [.Constant (.str m) j p3] [] pos) pos') X.env) (fun fl s' => fl = .next ∧ Inv X pins σ H s') E s := by
  obtain ⟨of, fd, ar, f1, f2, f3, rfl⟩ := S.fd
  obtain ⟨oc, vs, file, tf, c1, c2, c3, c4⟩ := S.cd
  obtain ⟨ocl, l1, l2⟩ := S.cell
  obtain ⟨cd, hcd⟩ := S.cls
  have kin : X.K.In s.heap := I.kIn
  obtain ⟨oD, hD1, hD2⟩ : ∃ oD, s.heap.get? C = some oD ∧ oD.data = .cls cd := by
    unfold PySem.W.clsIn at hcd
    split at hcd
    · rename_i c d cd' sl ho
      cases hcd
      exact ⟨_, kin _ _ ho, rfl⟩
    · cases hcd
  obtain ⟨t1, ha⟩ := exo_at I.hok e
  obtain ⟨mb, b1, b2⟩ := I.mod.blt
  obtain ⟨ml, n1, n2⟩ := I.loc
  obtain ⟨u, ru, lk⟩ := n2 0 ar.arg (.ref a) S.N0 h0 (.inl S.sl)
  cases ru
  have he : eval (.Call (.Attribute (.Call (.Name "super" p0) [] [] p1) "__init__" p2) [.Constant (.str m) j p3] [] pos) X.env = (do
      let ov ← attributeBase (.Call (.Name "super" p0) [] [] p1) "__init__" X.env (eval (.Call (.Name "super" p0) [] [] p1) X.env)
      standAt p2.atName
      let (f, first) ← holding [ov] (getMethod ov "__init__" (plainOf (.Call (.Name "super" p0) [] [] p1) X.env))
      callWith pos f first (backTo pos (starEach [.Constant (.str m) j p3] X.env)) []) := by
    have q : ∀ ov, methodCall (.Call (.Name "super" p0) [] [] p1) "__init__" p2 pos X.env ov 1 (backTo pos (starEach [.Constant (.str m) j p3] X.env)) (backToKw pos (keywordEach [] X.env)) = _ := fun ov => mcall_line (n := 1) rfl hline
    exact congrArg (fun k : Value → Sem Value => attributeBase (.Call (.Name "super" p0) [] [] p1) "__init__" X.env (eval (.Call (.Name "super" p0) [] [] p1) X.env) >>= fun ov => standAt p2.atName >>= fun _ => k ov) (funext q)
  have hi : interactive X.env = false := by
    unfold interactive
    rw [S.kind]
    rfl
  refine PySem.ks_wpAt_Expr_any (PySem.ks_wpAt_MethodCall (he := he) (PySem.ks_wpAt_super_base S.su S.kc (by decide) S.fu (kin _ _ f1) f2 f3 S.co (kin _ _ c1) c2 c3 c4 S.top ?_)) (hi := hi)
  have bk : ∀ {E : Value → Shared → Prop} {Q : Value → Shared → Prop}, Q (.type "super") s → wpAny (model X.prog X.w) X.A (loadName X.env "super") Q E s := fun {E Q} q =>
    PySem.W.ks_loadName_global S.kind S.su (Calls.loadGlobal_builtin (by rw [I.ok.glob]; exact I.mod.glob.keeps I.bk) S.mg (by rw [I.ok.blt]; exact b1.keeps I.bk) ((b2 "super" (by decide)).trans boot_super) q)
  refine bk ⟨rfl, ?_⟩
  refine wpAny_loadName_free S.kind S.kc S.cells ⟨ocl, kin _ _ l1, l2⟩ ?_
  have hself : ml ar.arg = some (.ref a) := by
    rcases lk with ⟨_, q⟩ | ⟨q, _⟩
    · exact q
    · rw [show X.env.kindOf ar.arg = _ from S.sl] at q
      rcases q with q | q <;> cases q
  refine wpAny_loadName_local S.kind S.sl n1 hself ?_
  obtain ⟨hp, g, d, t, os⟩ := s
  refine PySem.ks_wpAny_isType_cls hD1 hD2 ⟨rfl, ?_⟩
  refine PySem.ks_wpAny_call_super hD1 hD2 ha rfl (fun c q => by cases q) (PySem.W.looks_mroIn kin S.sub) fun h1 hso k1 => ?_
  have I1 : Inv X pins σ H ⟨h1, g, d, t, os⟩ := I.kept (t' := t) k1
  have kin1 : X.K.In h1 := I1.kIn
  have At1 : PySem.W.InstAt h1 a { cls := .ref C, data := .fields #[.ref t1, .none, .none, .none, .bool false, .none] } C none := ⟨k1 _ _ ha, rfl, rfl, trivial⟩
  have hini := S.ini
  unfold PySem.W.ks_superIn at hini
  rw [hcd] at hini
  refine PySem.W.kxs_getMethod PySem.W.kxs_ValueError hso (PySem.W.looks_opaque kin1 S.opq) (l₀ := cd.mro) (fun A Q E s k q => wpAny_bind ((PySem.W.looks_clsIn kin1 hcd) A _ E s k (wpAny_pure q))) rfl kin1 hini
    (At1.type.andThen (PySem.W.looks_subIn kin1 S.val)) (PySem.W.ks_ne kin1 At1 hcd) (by decide) ?_
  have I2 : Inv X pins σ H ⟨h1.push (PySem.W.kxs_mw "ValueError.__init__" a), g, d, t + 1, os⟩ := I1.kept (t' := t + 1) fun b o q => Heap.get?_push_of_some _ q
  refine PySem.W.kxs_callWith (i := "ValueError.__init__") (x := a) rfl (Calls.evalArgs_plain (Calls.spliced_cons (Calls.Constant_str (pos := p3) (k := j) (Calls.spliced_nil ⟨Heap.get?_push_size _ rfl, ?_⟩))))
  exact bound_init (us := [.str m (t + 1)]) S.oex (I2.tok _) e (Heap.get?_push_size _ rfl) (by show 1 ≤ sizeLine; decide) fun s' J => ⟨rfl, J⟩
end
end RB

set_option Elab.async false
set_option linter.all false
set_option maxRecDepth 100000
set_option maxHeartbeats 4000000
set_option autoImplicit false
/-! An own exception's __init__: super().__init__('..'), then self.p = p for each parameter. -/
namespace RB
open PySem PySem.Spec PyProof.Rows L2

/-- self.p = p, for each -/
def fieldsB (me : Str) : List Str → List Stmt → Bool
  | [], [] => true
  | p :: ps, .Assign [.Attribute (.Name s _) f _] (.Name x _) _ :: r => s == me && f == p && x == p && fieldsB me ps r
  | _, _ => false
def tFields (K : PySem.W.Frag) : List Str → Nat → TS
  | [], _ => fun D σ H => D.nx σ H
  | p :: ps, i => tSeq (tOst K p (tVar 0) (tVar i)) (tFields K ps (i + 1))
theorem dunder_ne {x : Str} (h : (x == ("__debug__" : Str)) = false ∧ (x == ("__classdict__" : Str)) = false) : True := trivial
theorem fields_ok {X : Cx} {me : Str} (h0 : X.N[0]? = some me) (v0 : Vis X.env.scope me) (d0 : (me == ("__debug__" : Str)) = false) (c0 : (me == ("__classdict__" : Str)) = false) : ∀ {ps : List Str} {sts : List Stmt} {i : Nat}, fieldsB me ps sts = true →
    (∀ (k : Nat) (p : Str), ps[k]? = some p → X.N[i + k]? = some p ∧ Vis X.env.scope p ∧ (p == ("__debug__" : Str)) = false ∧ (p == ("__classdict__" : Str)) = false) → PSs X sts (tFields X.K ps i)
  | [], [], i, _, _ => pss_nil
  | [], _ :: _, i, h, _ => Bool.noConfusion (show false = true from h)
  | p :: ps, [], i, h, _ => Bool.noConfusion (show false = true from h)
  | p :: ps, st :: sts, i, h, hp => by
    cases st <;> try exact Bool.noConfusion (show false = true from h)
    rename_i ts v pos
    cases ts with
    | nil => exact Bool.noConfusion (show false = true from h)
    | cons t ts =>
      cases ts with
      | cons _ _ => simp [fieldsB] at h
      | nil =>
        cases t <;> try exact Bool.noConfusion (show false = true from h)
        rename_i o f p2
        cases o <;> try exact Bool.noConfusion (show false = true from h)
        cases v <;> try exact Bool.noConfusion (show false = true from h)
        simp only [fieldsB, Bool.and_eq_true, beq_iff_eq] at h
        obtain ⟨⟨⟨rfl, rfl⟩, rfl⟩, h4⟩ := h
        obtain ⟨n0, n1, n2, n3⟩ := hp 0 _ rfl
        exact pss_cons (ps_ost (pe_var h0 v0 d0 c0) (pe_var n0 n1 n2 n3) rfl) (fields_ok h0 v0 d0 c0 h4 fun k q hq => by
          have := hp (k + 1) q (by simpa using hq)
          rwa [show i + 1 + k = i + (k + 1) by omega])
/-- what the fields' stores come to, the dict there -/
theorem fields_on {K : PySem.W.Frag} {C a dx : Addr} (T : OexC K C) {D : Ends} : ∀ {ps : List Str} {ys : List V} {i : Nat} {σ : L2.St} {H : Hp} {fs : List (Str × V)}, ys.length = ps.length → (∀ p ∈ ps, PySem.W.findIn K (.ref C) p = some none) → σ[0]? = some (some (.ref a)) → (∀ (k : Nat) (y : V), ys[k]? = some y → σ[i + k]? = some (some y)) →
    H a = some (exo a C (some dx)) → H dx = some (exd dx fs) → a ≠ dx → fs.length + ps.length ≤ 900 → (∀ H' : Hp, H' a = some (exo a C (some dx)) → H' dx = some (exd dx ((ps.zip ys).reverse ++ fs)) → (∀ b, b ≠ dx → H' b = H b) → D.nx σ H') → tFields K ps i D σ H
  | [], ys, i, σ, H, fs, hl, _, _, _, ea, ed, _, _, k => k H ea (by simpa using ed) fun _ _ => rfl
  | p :: ps, [], i, σ, H, fs, hl, _, _, _, _, _, _, _, _ => by simp at hl
  | p :: ps, y :: ys, i, σ, H, fs, hl, hn, h0, hy, ea, ed, ne, hb, k => by
    refine ⟨y, hy 0 y rfl, .ref a, h0, a, C, rfl, T, hn p List.mem_cons_self, .inr ⟨dx, fs, ea, ed, by simp at hb; omega, ?_⟩⟩
    refine fields_on T (fs := (p, y) :: fs) (by simpa using hl) (fun q hq => hn q (List.mem_cons_of_mem _ hq)) h0 (fun j z hz => ?_) (by rw [upd_ne ne]; exact ea) upd_same ne (by simp at hb ⊢; omega) fun H' e1 e2 e3 => k H' e1 ?_ fun b hb' => (e3 b hb').trans (upd_ne hb')
    · have := hy (j + 1) z (by simpa using hz)
      rwa [show i + 1 + j = i + (j + 1) by omega]
    · rw [e2]
      simp [List.zip_cons_cons, List.reverse_cons, List.append_assoc]
/-- .. the first of them makes the dict -/
theorem fields_new {K : PySem.W.Frag} {C a : Addr} (T : OexC K C) {D : Ends} {p : Str} {ps : List Str} {y : V} {ys : List V} {i : Nat} {σ : L2.St} {H : Hp} (hl : ys.length = ps.length) (hn : ∀ q ∈ p :: ps, PySem.W.findIn K (.ref C) q = some none) (h0 : σ[0]? = some (some (.ref a)))
    (hy : ∀ (k : Nat) (z : V), (y :: ys)[k]? = some z → σ[i + k]? = some (some z)) (ea : H a = some (exo a C none)) (hb : ps.length ≤ 800)
    (k : ∀ (dx : Addr) (H' : Hp), H dx = none → dx ≠ a → H' a = some (exo a C (some dx)) → H' dx = some (exd dx (((p :: ps).zip (y :: ys)).reverse)) → (∀ b, b ≠ dx → b ≠ a → H' b = H b) → D.nx σ H') : tFields K (p :: ps) i D σ H := by
  refine ⟨y, hy 0 y rfl, .ref a, h0, a, C, rfl, T, hn p List.mem_cons_self, .inl ⟨ea, fun dx nd ne => ?_⟩⟩
  refine fields_on T (dx := dx) (a := a) (fs := [(p, y)]) hl (fun q hq => hn q (List.mem_cons_of_mem _ hq)) h0 (fun j z hz => ?_) upd_same ((upd_ne ne).trans upd_same) (Ne.symm ne) (by simp; omega) fun H' e1 e2 e3 => k dx H' nd ne e1 ?_ fun b b1 b2 => (e3 b b1).trans ((upd_ne b2).trans (upd_ne b1))
  · have := hy (j + 1) z (by simpa using hz)
    rwa [show i + 1 + j = i + (j + 1) by omega]
  · rw [e2]
    simp [List.zip_cons_cons, List.reverse_cons]
end RB

set_option Elab.async false
set_option linter.all false
set_option maxRecDepth 100000
set_option maxHeartbeats 4000000
set_option autoImplicit false
/-! An own exception's __init__ keeps its promise; such an exception is raised. -/
namespace RB
open PySem PySem.Spec PyProof.Rows L2 NdefX

/-- super().__init__('..') -/
def superB : Stmt → Bool
  | .Expr (.Call (.Attribute (.Call (.Name x _) [] [] _) y p2) [.Constant (.str _) _ _] [] pos) _ => x == ("super" : Str) && y == ("__init__" : Str) && p2.endLine == pos.line
  | _ => false
/-- what the written part says of an own exception class at C whose __init__, at fI, has the parameters ps behind self -/
structure InitF (P : Program) (K : PySem.W.Frag) (mg : Str → Option Value) (C fI : Addr) (fd : FuncData) (ps : List Str) : Prop where
  fd : ∃ (oc : Value) (od : Option Addr) (osl : Array (Option Value)) (name qual me : Str) (as : List Arg) (kwd : List (Option Expr)) (st : Stmt) (sts : List Stmt) (sc : Scope) (cc cda : Addr) (kV doc pm ct : Value) (an : Option Addr),
    K.lookup fI = some ⟨oc, od, .func fd, osl⟩ ∧ fd = PySem.W.fnX name qual ⟨[], as, none, [], kwd, none, []⟩ (st :: sts) sc [(("__class__" : Str), cc)] .none kV doc pm an (.ref cda) ct ∧ PySem.W.codeIn K (.ref cda) qual = true ∧
    as.map (·.arg) = me :: ps ∧ superB st = true ∧ fieldsB me ps sts = true ∧ nscB (me :: ps ++ [("__class__" : Str)]) (me :: ps) [("__class__" : Str)] sc = true ∧ sc.names.lookup ("super" : Str) = some .globalImplicit ∧
    ((me :: ps).all fun x => !(x == ("__debug__" : Str)) && !(x == ("__classdict__" : Str))) = true ∧
    (∃ oc : Obj, K.lookup cc = some oc ∧ oc.data = .cell (some (.ref C))) ∧
    (∃ (oc : Obj) (vs : Array Value) (file : Str) (tf : Tok), K.lookup cda = some oc ∧ oc.data = .fields vs ∧ vs[2]? = some (.str file tf) ∧ ((P.main.file : Str) == file) = true)
  top : (P.main.scope.names.lookup ("super" : Str)).isSome = false
  mg : mg "super" = none
  cls : ∃ cd, PySem.W.clsIn K C = some cd
  sub : PySem.W.mroIn K C (.ref C) = some true
  opq : PySem.W.nsIn K cStatics "thirdparty.any" = some none
  ini : PySem.W.ks_superIn K C C "__init__" = some (some (.builtin "ValueError.__init__"))
  val : PySem.W.subIn K (.ref C) (.type "ValueError") = some true
  oex : OexC K C
  no : ∀ p ∈ ps, PySem.W.findIn K (.ref C) p = some none
  len : 0 < ps.length ∧ ps.length ≤ 100
/-- what the making of such an exception comes to -/
def spInit (C : Addr) (ps : List Str) : Sp := fun vs H Q _ => ∃ (a : Addr) (ys : List V), vs = .ref a :: ys ∧ ys.length = ps.length ∧ H a = some (exo a C none) ∧
  ∀ (dx : Addr) (H' : Hp), H dx = none → dx ≠ a → H' a = some (exo a C (some dx)) → H' dx = some (exd dx (ps.zip ys).reverse) → (∀ b, b ≠ dx → b ≠ a → H' b = H b) → Q .non H'
theorem superB_is {st : Stmt} (h : superB st = true) : ∃ m j p0 p1 p2 p3 pos pos', st = .Expr (.Call (.Attribute (.Call (.Name "super" p0) [] [] p1) "__init__" p2) [.Constant (.str m) j p3] [] pos) pos' ∧ (p2.endLine == pos.line) = true := by
  unfold superB at h
  split at h
  · simp only [Bool.and_eq_true, beq_iff_eq] at h
    obtain ⟨⟨rfl, rfl⟩, h3⟩ := h
    exact ⟨_, _, _, _, _, _, _, _, rfl, beq_iff_eq.mpr h3⟩
  · cases h
theorem look1 {k y : Str} {c c' : Addr} (h : List.lookup y [(k, c)] = some c') : y = k ∧ c' = c := by
  by_cases e : y = k
  · subst e
    rw [List.lookup_cons_self] at h
    exact ⟨rfl, (Option.some.inj h).symm⟩
  · rw [List.lookup_cons, show (y == k) = false by simpa using e] at h
    cases h
theorem init_ok {P : Program} {w : World} {K : PySem.W.Frag} {mg : Str → Option Value} {base : Heap} {C fI : Addr} {fd : FuncData} {ps : List Str} (I0 : InitF P K mg C fI fd ps) {qs : List Str} (hqs : fd.params.args.map (·.arg) = qs) :
    FnOk P w K mg base (L2.CX P w) 1 fI fd qs (spInit C ps) ∧ Binds K fd qs [] := by
  obtain ⟨oc, od, osl, name, qual, me, as, kwd, st, sts, sc, cc, cda, kV, doc, pm, ct, an, lk, rfl, hcd, has, hst, hsts, hsc, hsu, hdbg, hcell, hcode⟩ := I0.fd
  have hqs : as.map (·.arg) = qs := hqs
  rw [has] at hqs
  subst hqs
  have S := nscope_by hsc
  have nd : (me :: ps).Nodup := by
    have h1 := S.nd
    rw [show (me :: ps ++ [("__class__" : Str)]) = (me :: ps) ++ [("__class__" : Str)] from rfl] at h1
    exact (List.nodup_append.mp h1).1
  refine ⟨⟨?_, ?_⟩, .all fun us hl => ?_⟩
  · rintro vs H Q E ⟨a, ys, rfl, hl, _⟩
    simp [hl]
  · intro A outer s H args us vs Q E hr e0 hb r h
    obtain ⟨a, ys, rfl, hyl, ea, hq⟩ := h
    have KX : K.In s.heap := e0.mod.kin.keeps fun b o e => (e0.bs b o e).1
    have lim : s.heap.NoLimit := e0.mod.nolimit.keeps fun b o e => (e0.bs b o e).1
    let F : NF := ⟨name, qual, ⟨[], as, none, [], kwd, none, []⟩, st :: sts, sc, [(("__class__" : Str), cc)], cda⟩
    obtain ⟨ocl, l1, l2⟩ := hcell
    have hcc : H cc = none := (e0.bs cc ocl (e0.mod.kin _ _ l1)).2
    have Cs : CellsAt F.cl [("__class__" : Str)] [none] s.heap H := by
      refine ⟨rfl, fun y c hy => ?_, fun x y c hx hy => ?_, fun i y hi => ?_⟩
      · obtain ⟨_, rfl⟩ := look1 hy
        exact ⟨hcc, some (.ref C), ocl, KX _ _ l1, l2⟩
      · rw [(look1 hx).1, (look1 hy).1]
      · cases i with
        | zero =>
          cases hi
          exact ⟨cc, by show List.lookup _ [(_, _)] = _; rw [List.lookup_cons_self], fun v hv => by cases hv⟩
        | succ i => cases hi
    have hfix : as.map (·.arg) = me :: ps := has
    refine ks_codeAny_call_defAt (binds := (me :: ps).zip us) hr.depth (KX _ _ lk) rfl lim (PySem.W.codeRec_of KX hcd) rfl hb S.nocell (fun ⟨n, _⟩ hy => S.par n (List.of_mem_zip hy).1) (fun h₁ hns kp => ?_) S.co S.gen S.kind
    have J : Inv (ncx (L2.CX P w) P w K mg base (me :: ps ++ [("__class__" : Str)]) F fI A outer s H E) [] (startF (me :: ps ++ [("__class__" : Str)]) (.ref a :: ys) [none]) H { s with heap := h₁, toks := s.toks + ((me :: ps).zip us).length } :=
      inv_startN S hr.hd e0 (by simp [hyl]) r Cs hns kp
    obtain ⟨m, j, p0, p1, p2, p3, pos, pos', rfl, hline⟩ := superB_is hst
    have sl : ∀ (k : Nat) (y : V), (V.ref a :: ys)[k]? = some y → (startF (me :: ps ++ [("__class__" : Str)]) (V.ref a :: ys) [none])[k]? = some (some y) := fun k y hy => by
      unfold startF
      rw [List.getElem?_append_left (by simpa using (List.getElem?_eq_some_iff.mp hy).1), List.getElem?_map, hy]
      rfl
    have hvis : ∀ x ∈ me :: ps, Vis sc x ∧ (x == ("__debug__" : Str)) = false ∧ (x == ("__classdict__" : Str)) = false := fun x hx => by
      have := List.all_eq_true.mp hdbg x hx
      simp only [Bool.and_eq_true, Bool.not_eq_true'] at this
      exact ⟨.inl (S.par x hx), this⟩
    have hN : ∀ (k : Nat) (x : Str), (me :: ps)[k]? = some x → (me :: ps ++ [("__class__" : Str)])[k]? = some x := fun k x hx => by
      rw [List.getElem?_append_left (List.getElem?_eq_some_iff.mp hx).1]
      exact hx
    have SF : SupF (ncx (L2.CX P w) P w K mg base (me :: ps ++ [("__class__" : Str)]) F fI A outer s H E) C fI cc cda me := by
      obtain ⟨oc2, vs2, file, tf, c1, c2, c3, c4⟩ := hcode
      obtain ⟨ar, as', rfl⟩ : ∃ ar as', as = ar :: as' := by
        cases as with
        | nil => cases has
        | cons ar as' => exact ⟨ar, as', rfl⟩
      have har : ar.arg = me := by
        simp only [List.map_cons, List.cons.injEq] at has
        exact has.1
      exact ⟨S.kind, hsu, S.frk _ List.mem_cons_self, rfl, ⟨_, _, ar, lk, rfl, rfl, har⟩, rfl, ⟨oc2, vs2, file, tf, c1, c2, c3, c4⟩, I0.top, I0.mg, by show List.lookup _ [(_, _)] = _; rw [List.lookup_cons_self], ⟨ocl, l1, l2⟩, I0.cls, I0.sub, I0.opq, I0.ini, I0.val, I0.oex, rfl, S.par _ List.mem_cons_self⟩
    refine ks_wpAt_execs_cons (ks_wpAt_mono (super_stmt (E := _) SF J ea (sl 0 _ rfl) hline) (fun fl s' hs => ?_) fun _ _ x => x)
    obtain ⟨rfl, J'⟩ := hs
    refine wpAt_of_wpAny (wpAny_mono ((fields_ok (X := ncx (L2.CX P w) P w K mg base (me :: ps ++ [("__class__" : Str)]) F fI A outer s H E) (me := me) (i := 1) rfl (hvis _ List.mem_cons_self).1 (hvis _ List.mem_cons_self).2.1 (hvis _ List.mem_cons_self).2.2 hsts (fun k p hp => ?_)).run [] s' _ H
      { nx := fun _ H' => Q .non H', rt := Q } J' ?_) (fun fl s'' hf => ?_) fun _ _ x => x)
    · have hp' : (me :: ps)[1 + k]? = some p := by
        rw [Nat.add_comm, List.getElem?_cons_succ]
        exact hp
      exact ⟨hN _ _ hp', hvis p (List.mem_of_getElem? hp')⟩
    · obtain ⟨p, ps', rfl⟩ : ∃ p ps', ps = p :: ps' := by
        cases ps with
        | nil => exact absurd I0.len.1 (by simp)
        | cons p ps' => exact ⟨p, ps', rfl⟩
      obtain ⟨y, ys', rfl⟩ : ∃ y ys', ys = y :: ys' := by
        cases ys with
        | nil => simp at hyl
        | cons y ys' => exact ⟨y, ys', rfl⟩
      exact fields_new (a := a) I0.oex (by simpa using hyl) I0.no (sl 0 _ rfl) (fun k z hz => sl (1 + k) z (by rw [Nat.add_comm, List.getElem?_cons_succ]; exact hz)) ea (by have := I0.len.2; simp at this; omega) fun dx H' nd ne e1 e2 e3 => hq dx H' nd ne e1 e2 e3
    · have fin : ∀ {σ' : L2.St} {H' : Hp} {v : V} {u : Value}, Inv (ncx (L2.CX P w) P w K mg base (me :: ps ++ [("__class__" : Str)]) F fI A outer s H E) [] σ' H' s'' → L2.RelV v u → Q v H' → CE outer P w H s Q u s'' :=
        fun {σ' H' v u} J rv q => ⟨v, H', J.os, J.bare, J.base, J.hok, rv, q⟩
      cases fl with
      | ret u =>
        obtain ⟨v, σ', H', J, rv, q⟩ := hf
        exact fin J rv q
      | next =>
        obtain ⟨σ', H', J, q⟩ := hf
        exact fin (v := V.non) (u := Value.none) J rfl q
      | brk =>
        obtain ⟨_, _, _, q⟩ := hf
        exact False.elim q
      | cont =>
        obtain ⟨_, _, _, q⟩ := hf
        exact False.elim q
  · exact binds_any rfl rfl (by rw [has]; exact nd) (by rw [has]; exact hl) |>.trans (by rw [has])
end RB

set_option Elab.async false
set_option linter.all false
set_option maxRecDepth 100000
set_option maxHeartbeats 4000000
set_option autoImplicit false
/-! raise X(..), X an own exception class. -/
namespace RB
open PySem PySem.Spec PyProof.Rows L2

/-- how an exception lies in the heap: ex tells of each class where it stands and its fields -/
def cxG (G : Hd) (ex : Nat → Option (Addr × List Str)) : Nat → List D → Wd → Value → Option Addr → Prop := fun c vs w cls dx =>
  ∃ (C d : Addr) (ps : List Str) (us : List V), ex c = some (C, ps) ∧ cls = .ref C ∧ dx = some d ∧ w.F d = some (.xd (ps.zip us).reverse) ∧ RepL G w.F w.M vs us ∧ vs.length = ps.length
section
variable {Z : Fm} {X : Cx} {gs : Env → Store → R (List D)} {es : List Expr} {e : Expr} {pos pos' p : Pos}
theorem s_rse {c k : Nat} {C fI : Addr} {fd : FuncData} {qs ps : List Str} {x : Str} (ok : XOk Z X) (tk : Takes X Z.Wx) (T : OexC X.K C) (iC : PySem.W.findIn X.K (.ref C) "__init__" = some (some (.ref fI))) (tI : PySem.W.typeIn X.K (.ref fI) = some (.type "function"))
    (F1 : FnOk X.prog X.w X.K X.mg X.base (L2.CX X.prog X.w) k fI fd qs (spInit C ps)) (hr : Room (k + 1) X.A) (hb : Binds X.K fd qs []) (hg : Gl X x) (hm : X.mg x = some (.ref C)) (ha : PA X (e :: es) (tGA Z gs)) (hln : ∀ ρ S ds S', gs ρ S = .ok ds S' → ds.length = ps.length) (hps : ps.length ≤ 100)
    (hcx : ∀ (w : Wd) (d : Addr) (vs : List D) (us : List V), w.F d = some (.xd (ps.zip us).reverse) → RepL Z.G w.F w.M vs us → vs.length = ps.length → Z.cx c vs w (.ref C) (some d))
    (hdb : (x == ("__debug__" : Str)) = false) (he : starEach (e :: es) X.env = (false, eval e X.env) :: starEach es X.env) (hpl : (backTo pos (starEach es X.env)).any (·.1) = false) :
    PS X (.Raise (some (.Call (.Name x p) (e :: es) [] pos)) none pos') (tS Z fun ρ S => (gs ρ S).bind fun ds S1 => .ex c ds S1) := by
  refine PS.imp (ps_raise ok.calm tk (pmk_oex T iC tI F1 hr hb .nil L2.passL hg hm ha hdb he hpl)) fun D σ H ⟨ρ, w, ew, wok, r, e0, q⟩ => ?_
  refine ⟨ρ, w, ew, wok, r, ?_⟩
  dsimp only at q
  cases eg : gs ρ w.S with
  | no => rw [eg] at q; exact q.elim
  | ex c vs S' => rw [eg] at q; exact fun w' cls dx a b c d => q w' cls dx σ (e0.trans a) b c d
  | ok ds S1 =>
    rw [eg, bind_ok] at q
    intro w1 x1 ok1 s1 vs rs
    subst s1
    have hl := hln _ _ _ _ eg
    have hlv : vs.length = ps.length := rs.length ▸ hl
    refine ⟨by omega, fun a na => ⟨a, vs, by rw [List.append_nil], hlv, upd_same, fun dx H' nd ne e1 e2 e3 => ?_⟩⟩
    have nd' : w1.H dx = none := by rwa [upd_ne ne] at nd
    refine ⟨rfl, dx, _, e1, e2, nd', ?_⟩
    have eH : upd (del H' a) dx (.xd (ps.zip vs).reverse) = upd w1.H dx (.xd (ps.zip vs).reverse) := by
      funext b
      by_cases hb : b = dx
      · rw [hb, upd_same, upd_same]
      · rw [upd_ne hb, upd_ne hb]
        by_cases ha : b = a
        · rw [ha, del_same, na]
        · rw [del_ne ha, e3 b hb ha, upd_ne ha]
    rw [eH]
    have x2 := Wd.new_ext ok1.sub (o := .xd (ps.zip vs).reverse) nd'
    exact q (w1.new dx (.xd (ps.zip vs).reverse)) _ _ σ (e0.trans (x1.trans x2)) (ok1.new nd' (fun ps z => by cases z)) rfl (hcx _ _ _ _ upd_same (rs.ext x2) hl)
end
end RB

set_option Elab.async false
set_option linter.all false
set_option maxRecDepth 100000
set_option maxHeartbeats 4000000
set_option autoImplicit false
/-! A lambda is made. -/
namespace RB
open PySem PySem.Spec PyProof.Rows L2

theorem lm_at {P : Program} {w : World} {H : Hp} {h : Heap} {f c : Addr} {L : LF} {dV : Value} (hok : HOk P w H h) (e : H f = some (LmO f L c dV)) :
    ∃ doc pm ct : Value, h.get? f = some ({ cls := .type "function", data := .func (L.fd c dV doc pm ct) } : Obj) := by
  obtain ⟨z, _, _⟩ := hok f _ e
  exact z
theorem lmO_ne {f : Addr} {L : LF} {c : Addr} {dV : Value} (ps : Array Value) : LmO f L c dV ≠ .tbl ps := fun z => by
  unfold LmO at z
  cases z
section
variable {X : Cx} {pins : List (Addr × Obj)} {σ : Sl} {H : Hp} {s : Shared}
/-- the lambda's object is known from its making on -/
theorem inv_lm {L : LF} {c : Addr} {dV doc pm ct : Value} {t' : Nat} (I : Inv X pins σ H s) :
    Inv X pins σ (upd H s.heap.objs.size (LmO s.heap.objs.size L c dV)) { s with heap := s.heap.push { cls := .type "function", data := .func (L.fd c dV doc pm ct) }, toks := t' } := by
  have got : (s.heap.push ({ cls := .type "function", data := .func (L.fd c dV doc pm ct) } : Obj)).get? s.heap.objs.size = some ({ cls := .type "function", data := .func (L.fd c dV doc pm ct) } : Obj) := Heap.get?_push_size _ rfl
  exact I.laid (a := s.heap.objs.size) (fun b u e => Heap.get?_push_of_some _ e) (Nat.le_refl _)
    ⟨⟨doc, pm, ct, got⟩, ⟨_, got⟩, fun h1 h2 ⟨d, p, t, z⟩ st => ⟨d, p, t, st _ z⟩⟩
end

/-- a world whose table at P is longer -/
theorem tab_world {G : Hd} {w : Wd} (ok : WOk G w) {P c : Addr} {q : Str} {ps more : Array Value} (hP : w.H P = some (.tbl ps)) (hc : w.H c = none)
    (T : NdefX.TabsN G.T (upd (upd w.H P (.tbl (ps ++ more))) c (LamX.CodeO c q))) :
    WOk G { w with H := upd (upd w.H P (.tbl (ps ++ more))) c (LamX.CodeO c q) } ∧ Ext w { w with H := upd (upd w.H P (.tbl (ps ++ more))) c (LamX.CodeO c q) } := by
  have at_ : ∀ a o, w.H a = some o → (∀ q, o ≠ .tbl q) → upd (upd w.H P (.tbl (ps ++ more))) c (LamX.CodeO c q) a = some o := fun a o e n => by
    rw [upd_ne (ne_of_none e hc), upd_ne fun z => n ps (by rw [z, hP] at e; exact (Option.some.inj e).symm)]
    exact e
  refine ⟨⟨fun a o e => at_ a o (ok.sub a o e) fun qs z => ok.ntb a qs (by rw [← z]; exact e), ok.nd, ok.len, fun k a so h1 h2 => ?_, T, ok.ntb⟩, Sub.refl _, fun _ _ => rfl, fun a o e _ n => at_ a o e n, fun a n => ?_, [], by simp, by simp⟩
  · obtain ⟨g1, g2⟩ := ok.st k a so h1 h2
    refine ⟨g1, ?_⟩
    cases so with
    | lst ds =>
      obtain ⟨us, q1, q2⟩ := g2
      exact ⟨us, at_ a _ q1 (fun _ z => by cases z), q2⟩
    | ins _ _ => exact g2.elim
  · show upd (upd w.H P (.tbl (ps ++ more))) c (LamX.CodeO c q) a ≠ none
    intro z
    exact n (NdefX.upd_none (NdefX.upd_none z))
theorem not_M {G : Hd} {w : Wd} (ok : WOk G w) {c : Addr} (hc : ∀ vs, w.H c ≠ some (.lst vs)) : c ∉ w.M := fun z => by
  obtain ⟨n, hn⟩ := List.getElem?_of_mem z
  obtain ⟨hl, _⟩ := List.getElem?_eq_some_iff.mp hn
  obtain ⟨_, g2⟩ := ok.st n c _ hn (List.getElem?_eq_getElem (by rw [← ok.len]; exact hl))
  cases hso : w.S[n]'(by rw [← ok.len]; exact hl) with
  | lst ds =>
    rw [hso] at g2
    obtain ⟨us, q, _⟩ := g2
    exact hc us q
  | ins _ _ =>
    rw [hso] at g2
    exact g2.elim
theorem not_Mc {G : Hd} {w : Wd} (ok : WOk G w) {c : Addr} {q : Str} (hc : w.H c = some (LamX.CodeO c q)) : c ∉ w.M := not_M ok fun vs z => by
  rw [hc] at z
  unfold LamX.CodeO at z
  cases z

section
variable {X : Cx} {pins : List (Addr × Obj)} {σ : Sl} {s : Shared} {G : Hd} {w : Wd}
abbrev lfOf (X : Cx) (params : Arguments) (body : Expr) (scope : Scope) : LF := ⟨X.env.qual ++ "<lambda>", params, body, scope, cloFrom X.env.cells scope.names []⟩
theorem lam_tail {nm : Nat → Nat → Str} {c P : Addr} {params : Arguments} {body : Expr} {scope : Scope} {pos : Pos} {dV : Value} {ps : List (Str × Int)} {E Q : Value → Shared → Prop} (I : Inv X pins σ w.H s) (ok : WOk G w) (TB : LamX.TabB X.base X.mg c P) (hcode : X.env.code = .ref c)
    (hm : (P, nm) ∈ G.T) (hn : nm pos.line pos.col = X.env.qual ++ "<lambda>") (hu : ∀ p ∈ G.T, p.1 = P → p.2 = nm) (hfree : ∀ y ∈ scope.names, y.2 = .free → ∃ c, X.env.cells.lookup y.1 = some c) (hp : lamPar params = some ps) (hd : DefF w.F ps dV)
    (h : ∀ (f : Addr) (w' : Wd) (s' : Shared), Inv X pins σ w'.H s' → Ext w w' → WOk G w' → w'.S = w.S → LamAt w' (lfOf X params body scope) f → Q (.ref f) s') :
    wpAny (model X.prog X.w) X.A (makeTail "<lambda>" (X.env.qual ++ "<lambda>") params (.expr body) scope X.env dV .none none pos pos.line) Q E s := by
  obtain ⟨qs, hP, ht, ha⟩ := (show NdefX.TabN w.H P nm from ok.tab _ hm)
  have bP : s.heap.BuiltinsAt X.mg P := TB.bm.keeps I.bk
  have hP' : s.heap.get? P = some { cls := .none, data := .fields qs } := I.hok P _ hP
  cases hc : codeAmong pos qs.toList with
  | none =>
    refine PySem.W.kdv_makeTail (mg := X.mg) (c := c) (P := P) (ps := qs) (closure_ok hfree) I.ok.glob (I.mod.glob.keeps I.bk) hcode (TB.code.keeps I.bk) hP' ht hc TB.gP bP fun c' ctv doc h' tk hx hge hlt hrec htb => ?_
    obtain ⟨c2, oc, vs, t, e2, hoc, hd', hv⟩ := hrec
    cases e2
    have nC : w.H c' = none := I.hok.fresh hge
    have I1 := LamX.inv_table (t' := tk) (more := #[rawInt pos.line, rawInt pos.col, .ref c']) (h' := h') I hP (fun b o hb e => hx b o hb e) htb hge ⟨oc, vs, t, hoc, hd', hv⟩
    have eL : (qs ++ #[rawInt pos.line, rawInt pos.col, .ref c']).toList = qs.toList ++ [rawInt pos.line, rawInt pos.col, .ref c'] := by simp
    have hE : ∀ b o, w.H b = some o → (∀ q, o ≠ .tbl q) → upd (upd w.H P (.tbl (qs ++ #[rawInt pos.line, rawInt pos.col, .ref c']))) c' (LamX.CodeO c' (X.env.qual ++ "<lambda>")) b = some o := fun b o e n => by
      rw [upd_ne (ne_of_none e nC), upd_ne (fun z => n qs (Option.some.inj (e.symm.trans (by rw [z]; exact hP))))]
      exact e
    have T1 : NdefX.TabsN G.T (upd (upd w.H P (.tbl (qs ++ #[rawInt pos.line, rawInt pos.col, .ref c']))) c' (LamX.CodeO c' (X.env.qual ++ "<lambda>"))) := fun p hp => by
      by_cases hb : p.1 = P
      · rw [hu p hp hb, hb]
        refine ⟨_, by rw [upd_ne (ne_of_none hP nC), upd_same], by rw [eL]; exact PySem.TriplesOk_snoc _ _ _ _ ht, fun p' cv hcv => ?_⟩
        rw [eL] at hcv
        rcases NdefX.among_app2 _ ht hcv with z | ⟨z, z1, z2⟩
        · obtain ⟨c0, e1, e2⟩ := ha p' cv z
          exact ⟨c0, e1, hE _ _ e2 LamX.codeO_ne⟩
        · refine ⟨c', z, ?_⟩
          rw [← z1, ← z2, hn]
          exact upd_same
      · obtain ⟨ps', a1, a2, a3⟩ := ok.tab p hp
        refine ⟨ps', by rw [upd_ne (ne_of_none a1 nC), upd_ne hb]; exact a1, a2, fun p' cv hcv => ?_⟩
        obtain ⟨c0, e1, e2⟩ := a3 p' cv hcv
        exact ⟨c0, e1, hE _ _ e2 LamX.codeO_ne⟩
    obtain ⟨ok1, x1⟩ := tab_world ok hP nC T1
    have hsz : h'.objs.size = h'.objs.size := rfl
    have nF : (upd (upd w.H P (.tbl (qs ++ #[rawInt pos.line, rawInt pos.col, .ref c']))) c' (LamX.CodeO c' (X.env.qual ++ "<lambda>"))) h'.objs.size = none := I1.hok.fresh (Nat.le_refl _)
    have I2 := inv_lm (L := lfOf X params body scope) (c := c') (dV := dV) (doc := doc) (pm := (X.mg "__name__").getD .none) (ct := ctv) (t' := tk) I1
    have x2 := Wd.new_ext ok1.sub (o := LmO h'.objs.size (lfOf X params body scope) c' dV) nF
    have ok2 := ok1.new (o := LmO h'.objs.size (lfOf X params body scope) c' dV) nF lmO_ne
    refine h h'.objs.size _ _ I2 (x1.trans x2) ok2 rfl ⟨c', dV, ps, hp, upd_same, ?_, ?_, hd.mono (x1.trans x2).fs⟩
    · exact x2.hs c' _ upd_same (not_Mc ok1 (q := X.env.qual ++ "<lambda>") upd_same) LamX.codeO_ne
    · exact not_Mc (q := X.env.qual ++ "<lambda>") ok2 (x2.hs c' _ upd_same (not_Mc ok1 (q := X.env.qual ++ "<lambda>") upd_same) LamX.codeO_ne)
  | some cv =>
    obtain ⟨c', e, hco⟩ := ha pos cv hc
    subst e
    rw [hn] at hco
    refine PySem.W.kdv_makeTailHit (mg := X.mg) (c := c) (P := P) (ps := qs) (closure_ok hfree) I.ok.glob (I.mod.glob.keeps I.bk) hcode (TB.code.keeps I.bk) hP' ht hc bP fun ctv doc h' tk hx hsz => ?_
    have I1 : Inv X pins σ w.H { s with heap := h', toks := tk } := I.kept hx
    have nF : w.H h'.objs.size = none := I1.hok.fresh (Nat.le_refl _)
    have I2 := inv_lm (L := lfOf X params body scope) (c := c') (dV := dV) (doc := doc) (pm := (X.mg "__name__").getD .none) (ct := ctv) (t' := tk) I1
    have x2 := Wd.new_ext ok.sub (o := LmO h'.objs.size (lfOf X params body scope) c' dV) nF
    have ok2 := ok.new (o := LmO h'.objs.size (lfOf X params body scope) c' dV) nF lmO_ne
    have hco2 := x2.hs c' _ hco (not_Mc ok hco) LamX.codeO_ne
    exact h h'.objs.size _ _ I2 x2 ok2 rfl ⟨c', dV, ps, hp, upd_same, hco2, not_Mc ok2 hco2, hd.mono x2.fs⟩

/-- A LAMBDA IS MADE -/
theorem lam_made {nm : Nat → Nat → Str} {c P : Addr} {params : Arguments} {body : Expr} {scope : Scope} {pos : Pos} {ps : List (Str × Int)} {E Q : Value → Shared → Prop} (I : Inv X pins σ w.H s) (ok : WOk G w) (TB : LamX.TabB X.base X.mg c P) (hcode : X.env.code = .ref c)
    (hm : (P, nm) ∈ G.T) (hn : nm pos.line pos.col = X.env.qual ++ "<lambda>") (hu : ∀ p ∈ G.T, p.1 = P → p.2 = nm) (hfree : ∀ y ∈ scope.names, y.2 = .free → ∃ c, X.env.cells.lookup y.1 = some c) (hp : lamPar params = some ps)
    (h : ∀ (f : Addr) (w' : Wd) (s' : Shared), Inv X pins σ w'.H s' → Ext w w' → WOk G w' → w'.S = w.S → LamAt w' (lfOf X params body scope) f → Q (.ref f) s') :
    wpAny (model X.prog X.w) X.A (eval (.Lambda params body scope pos) X.env) Q E s := by
  have hp' := hp
  unfold lamPar at hp'
  split at hp'
  · cases hp'
    refine PySem.W.kla_eval rfl ?_
    rw [makeFunction_eq]
    simp only [List.zip_nil_right, List.filterMap_nil, List.isEmpty_nil, if_true, pure_bind]
    exact lam_tail I ok TB hcode hm hn hu hfree hp rfl h
  · rename_i a n k p2
    cases hp'
    refine PySem.W.kdv_lam rfl rfl (PySem.W.kdv_all1 (wpAny_Constant_int (PySem.W.kdv_all0 ?_)))
    rw [makeFunction_eq]
    simp only [List.zip_nil_right, List.filterMap_nil, List.isEmpty_nil, List.isEmpty_cons, if_true, pure_bind, Bool.false_eq_true, if_false]
    refine wpAny_bind (wpAny_newTextTuple ?_)
    have I1 := I.tok (s.toks + 1)
    have nT : w.H s.heap.objs.size = none := I.hok.fresh (Nat.le_refl _)
    have I2 := I1.laid (a := s.heap.objs.size) (o := .tup [.int n]) (t' := s.toks + 1) (h' := s.heap.push (PySem.W.kdv_tup [.int n s.toks])) (fun b u e => Heap.get?_push_of_some _ e) (Nat.le_refl _)
      ⟨by show 1 ≤ sizeLine; decide, [.int n s.toks], .cons ⟨_, rfl⟩ .nil, _, Heap.get?_push_size _ rfl, rfl, _, rfl⟩
    have ok2 := ok.new (o := .tup [.int n]) nT (fun ps z => by cases z)
    have x2 := Wd.new_ext ok.sub (o := .tup [.int n]) nT
    exact lam_tail (w := w.new s.heap.objs.size (.tup [.int n])) I2 ok2 TB hcode hm hn hu hfree hp ⟨_, rfl, upd_same⟩ fun f w' s' a b c d e => h f w' s' a (x2.trans b) c d e
  · cases hp'
end
end RB

set_option Elab.async false
set_option linter.all false
set_option maxRecDepth 100000
set_option maxHeartbeats 4000000
set_option autoImplicit false
/-! What a lambda captured; it is called. -/
namespace RB
open PySem PySem.Spec PyProof.Rows L2

/-- what a lambda's cells hold, by the slots of its maker -/
structure CapR (cl : List (Str × Addr)) (scope : Scope) (N : List Str) (σ : Sl) (h : Heap) (H : Hp) : Prop where
  all : ∀ y c, cl.lookup y = some c → H c = none ∧ ∃ v, h.IsCell c v
  inj : ∀ y z c, cl.lookup y = some c → cl.lookup z = some c → y = z
  has : ∀ y, scope.names.lookup y = some .free → ∃ c, cl.lookup y = some c
  val : ∀ (i : Nat) (y : Str) (v : V), N[i]? = some y → σ[i]? = some (some v) → scope.names.lookup y = some .free → ∃ c u, cl.lookup y = some c ∧ L2.RelV v u ∧ h.IsCell c (some u)
section
variable {X : Cx} {pins : List (Addr × Obj)} {σ σ' : Sl} {H : Hp} {s : Shared} {scope : Scope} {cl : List (Str × Addr)} {N : List Str}
abbrev FreeIn (X : Cx) (scope : Scope) : Prop := ∀ y ∈ scope.names, y.2 = .free → X.env.scope.names.lookup y.1 = some .cell ∨ X.env.scope.names.lookup y.1 = some .free
theorem free_cells (ok : X.Ok) (hf : FreeIn X scope) : ∀ y ∈ scope.names, y.2 = .free → ∃ c, X.env.cells.lookup y.1 = some c := fun y hy e => (hf y hy e).elim (fun z => ok.has _ (.inl z)) fun z => ok.has _ (.inr z)
theorem cap_of (I : Inv X pins σ H s) (hf : FreeIn X scope) : CapR (cloFrom X.env.cells scope.names []) scope X.N σ s.heap H := by
  have hc := free_cells I.ok hf
  have cm : ∀ {y c}, (cloFrom X.env.cells scope.names []).lookup y = some c → X.env.cells.lookup y = some c := fun {y c} e => NdefX.clo_cm hc e
  refine ⟨fun y c e => ⟨I.freeC y c (cm e), I.cell y c (cm e)⟩, fun y z c e1 e2 => I.ok.inj y z c (cm e1) (cm e2), fun y e => ?_, fun i y v e1 e2 e3 => ?_⟩
  · obtain ⟨c, e'⟩ := hc (y, .free) (PySem.mem_of_lookup e) rfl
    exact ⟨c, NdefX.clo_has hc (PySem.mem_of_lookup e) e'⟩
  · have k := hf (y, .free) (PySem.mem_of_lookup e3) rfl
    have k : X.env.scope.names.lookup y = some .cell ∨ X.env.scope.names.lookup y = some .free := k
    obtain ⟨m, _, hl⟩ := I.loc
    obtain ⟨u, r, l⟩ := hl i y v e1 e2 (k.elim (fun z => .inr (.inl z)) fun z => .inr (.inr z))
    rcases l with ⟨z, _⟩ | ⟨_, a', ha', hcell⟩
    · have z' : X.env.scope.names.lookup y = some .local := z
      rcases k with k | k <;> rw [k] at z' <;> cases z'
    · exact ⟨a', u, NdefX.clo_has hc (PySem.mem_of_lookup e3) ha', r, hcell⟩
/-- they hold it still, further down -/
theorem CapR.later (C : CapR cl scope N σ X.s_0.heap X.H_0) (nf : ∀ y c, cl.lookup y = some c → c ∉ X.fs) (hx : ∀ y c, cl.lookup y = some c → c ∉ X.ex) (I : Inv X pins σ' H s) : CapR cl scope N σ s.heap H := by
  have kp : ∀ y c, cl.lookup y = some c → ∀ v, X.s_0.heap.IsCell c v → s.heap.IsCell c v := fun y c e v ⟨o, ho, hd⟩ => ⟨o, I.base.keep c o ho (C.all y c e).1 (nf y c e) (hx y c e), hd⟩
  refine ⟨fun y c e => ?_, C.inj, C.has, fun i y v e1 e2 e3 => ?_⟩
  · obtain ⟨n, v, z⟩ := C.all y c e
    refine ⟨?_, v, kp y c e v z⟩
    obtain ⟨o, ho, _⟩ := z
    exact I.base.free c o ho n (hx y c e)
  · obtain ⟨c, u, e4, r, z⟩ := C.val i y v e1 e2 e3
    exact ⟨c, u, e4, r, kp y c e4 _ z⟩
theorem CapR.kept {h h' : Heap} {H H' : Hp} (C : CapR cl scope N σ h H) (k : ∀ y c, cl.lookup y = some c → ∀ o, h.get? c = some o → h'.get? c = some o) (n : ∀ y c, cl.lookup y = some c → H' c = none) : CapR cl scope N σ h' H' := by
  have kp : ∀ y c, cl.lookup y = some c → ∀ v, h.IsCell c v → h'.IsCell c v := fun y c e v ⟨o, ho, hd⟩ => ⟨o, k y c e o ho, hd⟩
  refine ⟨fun y c e => ?_, C.inj, C.has, fun i y v e1 e2 e3 => ?_⟩
  · obtain ⟨_, v, z⟩ := C.all y c e
    exact ⟨n y c e, v, kp y c e v z⟩
  · obtain ⟨c, u, e4, r, z⟩ := C.val i y v e1 e2 e3
    exact ⟨c, u, e4, r, kp y c e4 _ z⟩
/-- cells that the running def made are no frame -/
theorem cell_nofr (I : Inv X pins σ H s) {y : Str} {c : Addr} (hy : X.fn y = true) (e : X.env.cells.lookup y = some c) : c ∉ frs X.stack := fun hm => by
  rcases List.mem_cons.mp (I.stkSub c hm) with z | z
  · exact I.cne y c e z
  · obtain ⟨_, o, ho, _⟩ := I.ok.funs.mem z
    exact absurd (Nat.lt_of_lt_of_le (Heap.lt_size ho) (I.ok.cab y c hy e)) (Nat.lt_irrefl _)
end

/-! ### the lambda's frame -/
structure LamSc (N ps : List Str) (scope : Scope) : Prop where
  kind : scope.kind = .function
  co : scope.isCoroutine = false
  gen : scope.isGenerator = false
  par : ∀ x ∈ ps, scope.names.lookup x = some .local
  nocell : ∀ y ∈ scope.names, y.2 ≠ .cell
  loc : ∀ y, scope.names.lookup y = some .local → y ∉ N
def lamScB (N ps : List Str) (scope : Scope) : Bool :=
  decide (scope.kind = .function) && !scope.isCoroutine && !scope.isGenerator && ps.all (fun x => decide (scope.names.lookup x = some .local)) && scope.names.all fun y => !decide (y.2 = .cell) && (!decide (y.2 = .local) || !decide (y.1 ∈ N))
theorem lamSc_ok {N ps : List Str} {scope : Scope} (h : lamScB N ps scope = true) : LamSc N ps scope := by
  unfold lamScB at h
  simp only [Bool.and_eq_true, Bool.or_eq_true, Bool.not_eq_true', decide_eq_true_eq, decide_eq_false_iff_not, List.all_eq_true] at h
  obtain ⟨⟨⟨⟨h1, h2⟩, h3⟩, h4⟩, h5⟩ := h
  exact ⟨h1, h2, h3, h4, fun y hy => (h5 y hy).1, fun y e => ((h5 _ (PySem.mem_of_lookup e)).2).elim (fun z => absurd rfl z) id⟩
abbrev envL (L : LF) (c f Lo : Addr) : PySem.Env := PySem.W.envX L.qual L.scope Lo f (.ref c) L.cl
def lcx (P : Program) (w : World) (K : PySem.W.Frag) (mg : Str → Option Value) (base : Heap) (N : List Str) (L : LF) (c f : Addr) (A : Around) (outer : List PySem.Env) (s : Shared) (H : Hp) (E : XK) : Cx where
  prog := P
  w := w
  K := K
  mg := mg
  base := base
  A := A.deeper (envL L c f s.heap.objs.size)
  N := N
  s_0 := s
  H_0 := H
  env := envL L c f s.heap.objs.size
  outer := outer
  stack := envL L c f s.heap.objs.size :: outer
  ex := []
  calm := true
  fn := fun _ => false
  pn := []
  xe := fun e s' => wpAny (model P w) (A.deeper (envL L c f s.heap.objs.size)) (leaving (envL L c f s.heap.objs.size) e) (fun _ s'' => L2.CX P w outer H s E e s'') (fun e' s'' => L2.CX P w outer H s E e' s'') s'
section
variable {P : Program} {w : World} {K : PySem.W.Frag} {mg : Str → Option Value} {base : Heap} {N ps : List Str} {L : LF} {c f : Addr} {A : Around} {outer : List PySem.Env} {s : Shared} {H : Hp} {E : XK} {σ : Sl}
theorem inv_startL {h₁ : Heap} {tk : Nat} {m : Str → Option Value} (S : LamSc N ps L.scope) (hd : A.handled = none) (e0 : Env0 P w K mg base A outer s H) (C : CapR L.cl L.scope N σ s.heap H) (hl : σ.length = N.length) (hns : h₁.Ns s.heap.objs.size m)
    (kp : ∀ b o, s.heap.get? b = some o → h₁.get? b = some o) : Inv (lcx P w K mg base N L c f A outer s H E) [] σ H { s with heap := h₁, toks := tk } := by
  have noA : ∀ b : Addr, b ∉ (lcx P w K mg base N L c f A outer s H E).ex := fun b z => absurd (show b ∈ ([] : List Addr) from z) (by simp)
  have cellK : ∀ {c : Addr} {v : Option Value}, s.heap.IsCell c v → h₁.IsCell c v := fun {c v} ⟨o, ho, hd⟩ => ⟨o, kp _ _ ho, hd⟩
  refine ⟨⟨e0.mod, S.kind, rfl, rfl, Nat.le_refl _, C.inj, fun y hy => ?_, fun y c z _ => (Bool.noConfusion (show false = true from z)), fun _ => hd, Around.frames_deeper e0.frames, .inr ⟨rfl, rfl⟩, fun b z => absurd z (noA b), e0.bs, e0.bsz, fun b _ _ => noA b,
      fun b z => absurd z (noA b), e0.funs, e0.frf⟩,
    rfl, e0.bare, Un.kept kp, ⟨_, hns, fun i y v e1 e2 e3 => ?_⟩, fun y c e => ?_, e0.hok.fresh (Nat.le_refl _), fun y c e => (C.all y c e).1, fun q hq => absurd (show q ∈ ([] : List (Addr × Obj)) ++ [] from hq) (by simp), e0.hok.kept kp, hl⟩
  · have hy : L.scope.names.lookup y = some .cell ∨ L.scope.names.lookup y = some .free := hy
    rcases hy with hy | hy
    · exact absurd rfl (S.nocell _ (PySem.mem_of_lookup hy))
    · exact C.has y hy
  · have e1 : N[i]? = some y := e1
    have e3 : L.scope.names.lookup y = some .local ∨ L.scope.names.lookup y = some .cell ∨ L.scope.names.lookup y = some .free := e3
    rcases e3 with k | k | k
    · exact absurd (List.mem_of_getElem? e1) (S.loc y k)
    · exact absurd rfl (S.nocell _ (PySem.mem_of_lookup k))
    · obtain ⟨c, u, h1, r, h2⟩ := C.val i y v e1 e2 k
      exact ⟨u, r, .inr ⟨.inr k, c, h1, cellK h2⟩⟩
  · obtain ⟨v, z⟩ := (C.all y c e).2
    exact ⟨v, cellK z⟩
/-- what a call without arguments binds -/
theorem lam_binds {dV doc pm ct : Value} {qs : List (Str × Int)} (hp : lamPar L.params = some qs) (hd : DefF H qs dV) (hok : HOk P w H s.heap) :
    ∃ bs : List (Str × Value), BindsTo s (L.fd c dV doc pm ct) ⟨[], []⟩ bs ∧ ∀ y ∈ bs, y.1 ∈ qs.map (·.1) := by
  obtain ⟨qual, params, body, scope, cl⟩ := L
  have hp : lamPar params = some qs := hp
  unfold lamPar at hp
  split at hp
  · cases hp
    have hd : dV = .none := hd
    subst hd
    exact ⟨[], .of_eq rfl, fun y hy => absurd hy (by simp)⟩
  · rename_i a n k p _
    cases hp
    obtain ⟨T, rfl, hT⟩ := hd
    obtain ⟨_, its, rv, o, ho, hcl, m, hdt⟩ := hok T _ hT
    cases rv with
    | cons r rr =>
      cases rr
      rename_i u
      exact ⟨[(a.arg, u)], .of_defaults rfl ho hdt rfl (by simp [List.lookup, List.filterMap]), fun y hy => by simpa using congrArg Prod.fst (List.mem_singleton.mp hy)⟩
  · cases hp
/-- THE LAMBDA IS CALLED -/
theorem lam_run {dV : Value} {qs : List (Str × Int)} {k : Nat} {Q : VK} {tb : TE} (hr : Room (k + 1) A) (e0 : Env0 P w K mg base A outer s H) (hf : H f = some (LmO f L c dV)) (hc : H c = some (LamX.CodeO c L.qual)) (hp : lamPar L.params = some qs) (hd : DefF H qs dV)
    (S : LamSc N (qs.map (·.1)) L.scope) (C : CapR L.cl L.scope N σ s.heap H) (hl : σ.length = N.length) (hbody : Room k (A.deeper (envL L c f s.heap.objs.size)) → PE (lcx P w K mg base N L c f A outer s H E) L.body tb) (h : tb σ H Q) :
    codeAny (model P w) A (.call (.ref f) ⟨[], []⟩) (CR (L2.CX P w) outer P w H s Q E) s := by
  have lim : s.heap.NoLimit := e0.mod.nolimit.keeps fun b o e => (e0.bs b o e).1
  obtain ⟨doc, pm, ct, ho⟩ := lm_at e0.hok hf
  obtain ⟨bs, hb, hin⟩ := lam_binds (doc := doc) (pm := pm) (ct := ct) (c := c) hp hd e0.hok
  refine PySem.W.kla_callFunE hr.depth ho rfl S.co S.gen rfl (NdefX.codeO_at e0.hok hc) (hb _ _ _ _ ?_)
  refine wpAny_newFunctionEnv S.nocell (fun y hy => S.par _ (hin y hy)) (fun h₁ hns hsb => ⟨lim.fresh _ hsb, ?_⟩) S.kind
  show codeAny _ _ (.expr L.body (envL L c f s.heap.objs.size)) _ _
  have kp : ∀ b o, s.heap.get? b = some o → h₁.get? b = some o := fun b o e => hsb.extBut b o (Nat.ne_of_lt (Heap.lt_size e)) (Heap.get?_push_of_some _ e)
  have J : Inv (lcx P w K mg base N L c f A outer s H E) [] σ H { s with heap := h₁, toks := s.toks + bs.length } := inv_startL S hr.hd e0 C hl hns kp
  refine PySem.W.kla_codeExpr (wpAny_mono ((hbody (hr.deeper _)).run [] _ σ H Q J h) (fun v s' hq => ?_) fun e s' hq => hq)
  obtain ⟨w', H', J', rv, q⟩ := hq
  exact ⟨w', H', J'.os, J'.bare, J'.base, J'.hok, rv, q⟩
end
end RB

set_option Elab.async false
set_option linter.all false
set_option maxRecDepth 100000
set_option maxHeartbeats 4000000
set_option autoImplicit false
/-! A caught error, its dict tracked: its class, its fields. -/
namespace RB
open PySem PySem.Spec PyProof.Rows L2

section
variable {K : PySem.W.Frag} {x D : Addr} {ox : Obj} {od : Option Obj}
theorem err_find (C : ExcC K D) : PySem.W.findObj K D od "__class__" = some (.bind (.builtin "getset_descriptor.__get__") (.builtin "object.__class__")) := by
  obtain ⟨cd, hc, _⟩ := PySem.W.any_some C.hd
  unfold PySem.W.findObj
  rw [hc, Option.bind_some, C.ha, Option.bind_some]
  simp [C.hn, C.ht]
/-- e.__class__ -/
theorem err_class (C : ExcC K D) {prog : Program} {w : World} {A : Around} {E : Value → Shared → Prop} {Q : Option Value → Shared → Prop} {s : Shared} (kin : K.In s.heap) (I : PySem.W.InstAt s.heap x ox D od) (q : Q (some (.ref D)) { s with toks := s.toks + 1 }) :
    wpAny (model prog w) A (getAttr? (.ref x) "__class__") Q E s := by
  obtain ⟨hp, gs, dr, tk, os⟩ := s
  have ty := I.type (M := model prog w)
  have g1 := PySem.W.looks_findIn (M := model prog w) kin C.hg
  have g2 := PySem.W.looks_findIn (M := model prog w) kin C.hk
  have g3 := PySem.W.looks_find (M := model prog w) kin I (err_find (od := od) C)
  have isE : PySem.W.Looks (model prog w) hp (isInstance (.ref x) (.type "BaseException")) true := ty.andThen (PySem.W.looks_subIn kin C.hs)
  have n0 : (Value.builtin "BaseException.__getattribute__" == Value.builtin "object.__getattribute__") = false := by decide +kernel
  have n1 : (onTheHeap (Value.ref D) && Value.builtin "BaseException.__getattribute__" == Value.builtin "object.__getattribute__") = false := by rw [n0]; rfl
  have n2 : (false && onTheHeap (Value.builtin "BaseException.__getattribute__")) = false := rfl
  unfold getAttr? getAttrBy? getAttrBy
  refine wpAny_bind (wpAny_mkText (wpAny_bind (wpAny_attempt (wpAny_holding (wpAny_bind (ty.at (wpAny_bind (g1.at ?_))))))))
  show wpAny (model prog w) _ (if (onTheHeap (Value.ref D) && Value.builtin "BaseException.__getattribute__" == Value.builtin "object.__getattribute__") = true then _ else _) _ _ _
  rw [n1, if_neg Bool.false_ne_true]
  unfold getAttrByItsOwn hookBefore
  refine wpAny_bind ?_
  rw [if_pos (show onTheHeap (Value.ref D) = true from rfl)]
  refine g2.at (wpAny_bind (wpAny_attempt (wpAny_holding ?_)))
  unfold callGetattribute
  rw [n2, if_neg Bool.false_ne_true]
  unfold boundAndCalled
  rw [PySem.F.excAttr_ValueError.ga.bind (.ref x)]
  refine wpAny_bind (wpAny_pure ?_)
  show wpAny (model prog w) _ (call (.builtin "BaseException.__getattribute__") [.ref x, .str "__class__" tk]) _ _ _
  refine wpAny_call (codeAny_call_builtin PySem.F.excAttr_ValueError.ga.plain PySem.F.entry_bexc_ga (@PySem.W.check_slot (model prog w) _ _ ⟨hp, gs, dr, tk + 1, os⟩ "BaseException.__getattribute__" "BaseException" "__getattribute__" (.ref x) [.str "__class__" tk] [] _ (by decide +kernel) (by decide +kernel) isE (PySem.F.args_bexc_ga (.ref x) (.str "__class__" tk)) ?_))
  unfold Builtin.«object.__getattribute__»
  refine wpAny_bind (wpAny_of_eq (a := ((Value.ref x : Value), [Value.str "__class__" tk])) (by first | rfl | (simp only [slotArgs]; rfl)) (wpAny_bind (wpAny_pure (wpAny_bind (ty.at (wpAny_bind (g3.at ?_)))))))
  show wpAny (model prog w) _ (holding [Value.builtin "object.__class__"] (call (.builtin "getset_descriptor.__get__") [.builtin "object.__class__", .ref x, .ref D]) >>= ret) _ _ _
  refine wpAny_bind (wpAny_holding (wpAny_call (PySem.W.class_get (s := ⟨hp, gs, dr, tk + 1, os⟩) (ox := ox) (od := od) kin I C.hm (wpAny_pure ?_))))
  show wpAny (model prog w) _ (handedOut (.ref D)) _ _ _
  rw [PySem.W.handedOut_of (v := .ref D) rfl]
  first
    | exact wpAny_pure (wpAny_pure q)
    | exact wpAny_pure q
    | exact wpAny_pure (wpAny_bind (wpAny_pure (wpAny_pure q)))
theorem err_kit (C : ExcC K D) : PySem.W.KitX K (.ref x) (.ref D) (fun h => PySem.W.InstAt h x ox D od) where
  ty := fun _ _ _ I => I.type
  it := fun _ _ kin _ => by
    obtain ⟨cd, hc, _⟩ := PySem.W.any_some C.hd
    unfold PySem.W.clsIn at hc
    split at hc
    · rename_i ho
      exact fun A' Q' E' s' k q => by
        unfold isType loadHead
        exact wpAny_bind (wpAny_loadPart (k _ _ (kin _ _ ho)) (wpAny_pure q))
    · cases hc
  ne := fun h tp dd its n sl kin htp => by
    obtain ⟨cd, hc, _⟩ := PySem.W.any_some C.hd
    refine Bool.eq_false_iff.mpr fun q => ?_
    have e := Value.ref.inj (beq_iff_eq.mp q)
    subst e
    unfold PySem.W.clsIn at hc
    split at hc
    · rename_i ho
      exact nomatch (kin _ _ ho).symm.trans htp
    · cases hc
  ca := fun kin I q => err_class C kin I q
end

/-! ### within the def that gets it: p is pinned -/
/-- the caught error: p's object is an instance of D with the dict dd, whose fields are fs -/
structure ErrP (K : PySem.W.Frag) (p : Addr × Obj) (D dd : Addr) : Prop where
  cls : p.2.cls = .ref D
  dict : p.2.dict = some dd
  fields : ∃ vs, p.2.data = .fields vs
section
variable {X : Cx} {p : Addr × Obj} {D dd : Addr}
theorem ErrP.inst (e : ErrP X.K p D dd) (hp : p ∈ X.pn) {pins : List (Addr × Obj)} {σ : Sl} {H : Hp} {s : Shared} {fs : List (Str × V)} (I : Inv X pins σ H s) (hd : H dd = some (.xd fs)) :
    ∃ (od : Obj) (mA : Str → Option Value), PySem.W.InstAt s.heap p.1 p.2 D (some od) ∧ (∀ n, PySem.W.lookIn n od = some (mA n)) ∧ ∀ n, RelO (fs.lookup n) (mA n) := by
  obtain ⟨ha, _⟩ := I.pin p (List.mem_append_left _ hp)
  obtain ⟨mA, hns, hr⟩ := (show ObjOk X.prog X.w H s.heap dd (.xd fs) from I.hok dd _ hd)
  obtain ⟨od, ho, hl⟩ := lookIn_ns hns
  obtain ⟨vs, hv⟩ := e.fields
  exact ⟨od, mA, ⟨ha, e.cls, by unfold PySem.W.notCls; rw [hv] <;> rfl, by rw [e.dict]; exact ho⟩, hl, hr⟩
/-- isinstance(e, c) -/
def rIsP (K : PySem.W.Frag) (p : Addr × Obj) (D dd : Addr) : List V → Hp → VK → Prop := fun xs H Q => ∃ (c : V) (cv : Value) (b : Bool) (fs : List (Str × V)), xs = [.ref p.1, c] ∧ (∀ u, RelV c u → u = cv) ∧ PySem.W.kitOne K (.ref D) cv = some b ∧ H dd = some (.xd fs) ∧ Q (.bl b) H
theorem isP_ok (C : ExcC X.K D) (e : ErrP X.K p D dd) (hp : p ∈ X.pn) : CallR X (.builtin "isinstance") (rIsP X.K p D dd) := by
  intro pins s σ H xs us Q I r h
  obtain ⟨c, cv, b, fs, rfl, hcv, hb, hd, q⟩ := h
  cases r with
  | cons rx rr =>
    cases rr with
    | cons rt rr =>
      cases rr
      cases rx
      have ec := hcv _ rt
      subst ec
      obtain ⟨od, mA, J, _, _⟩ := e.inst hp I hd
      exact PySem.W.kia_one (err_kit C) I.kIn J hb (fun z => nomatch z) fun tk => ⟨.bl b, H, I.kept (t' := tk) fun _ _ z => z, rfl, q⟩
/-- e.f -/
def tFld (a dd : Addr) (f : Str) (te : TE) : TE := fun σ H Q => te σ H fun x H1 => x = .ref a ∧ ∃ (fs : List (Str × V)) (v : V), H1 dd = some (.xd fs) ∧ fs.lookup f = some v ∧ Q v H1
theorem pe_fld {e : Expr} {te : TE} {pos : Pos} {n : Str} (T : XfC X.K D) (hno : PySem.W.findIn X.K (.ref D) n = some none) (er : ErrP X.K p D dd) (hp : p ∈ X.pn) (he : PE X e te) (hb : attributeBase e n X.env (eval e X.env) = eval e X.env) :
    PE X (.Attribute e n pos) (tFld p.1 dd n te) := by
  refine ⟨fun pins s σ H Q I h => attr_of hb (thn (he.run pins s σ H _ I h) fun u s1 hh => ?_)⟩
  obtain ⟨x, H1, I1, rx, ex, fs, v, ea, l, q⟩ := hh
  subst ex
  cases rx
  obtain ⟨od, mA, J, hl, hr⟩ := er.inst hp I1 ea
  obtain ⟨u, hu, ru⟩ := RelO.some_of (v := v) (o := mA n) (by rw [← l]; exact hr n)
  exact HandSPX.exc_get I1.kIn J T.ga T.gg T.exC (PySem.W.findObj_own T.hdC hno rfl (by rw [hl, hu])) (handed_of ru) ⟨v, H1, I1.tok _, ru, q⟩
end
end RB

set_option Elab.async false
set_option linter.all false
set_option maxRecDepth 100000
set_option maxHeartbeats 4000000
set_option autoImplicit false
/-! _law_told: try: return ('told', call()) except RowError as e: return _law_refusal(e) -/
namespace RB
open PySem PySem.Spec PyProof.Rows L2

/-- a def called within an except suite, nothing raised there -/
theorem hot_run {CX : CXT} {P : Program} {w : World} {K : PySem.W.Frag} {mg : Str → Option Value} {base : Heap} {k : Nat} {f : Addr} {name qual : Str} {params : Arguments} {body : List Stmt} {scope : Scope} {dV kV doc pm cdv ct oc : Value} {an od : Option Addr}
    {osl : Array (Option Value)} {N ps : List Str} {A : Around} {outer : List PySem.Env} {s : Shared} {H : Hp} {args : Args} {us : List Value} {vs : List V} {Q : VK} {E : XK} {p : Addr × Obj} {t : TS}
    (lk : K.lookup f = some ⟨oc, od, .func (PySem.W.fnOf name qual params body scope dV kV doc pm an cdv ct), osl⟩) (hcd : PySem.W.codeIn K cdv qual = true) (S : FnScope N ps scope) (hr : L2H.RoomH (k + 1) A) (hpin : L2H.PinOk outer H s p) (e0 : Env0 P w K mg base A outer s H)
    (hb : BindsTo s (PySem.W.fnOf name qual params body scope dV kV doc pm an cdv ct) args (ps.zip us)) (r : Vals vs us) (hl : vs.length = ps.length)
    (hbody : PSs (L2H.cxH CX P w K mg base N qual scope f cdv A outer s H E p) body t) (hq : t { nx := fun _ H' => Q .non H', rt := Q } (L2.start N vs) H) :
    codeAny (model P w) A (.call (.ref f) args) (CR CX outer P w H s Q E) s := by
  have KX : K.In s.heap := e0.mod.kin.keeps fun b o e => (e0.bs b o e).1
  have lim : s.heap.NoLimit := e0.mod.nolimit.keeps fun b o e => (e0.bs b o e).1
  have kinds : ∀ y ∈ ps.zip us, scope.names.lookup y.1 = some .local ∨ (scope.names.lookup y.1 = some .cell ∧ ((cellsFrom (s.heap.objs.size + 1) scope.names []).lookup y.1).isSome = true) := fun y hy => by
    rcases S.par y.1 (List.of_mem_zip hy).1 with q | q
    · exact .inl q
    · exact .inr ⟨q, PySem.W.cellsFrom_some _ _ _ (.inl q)⟩
  refine codeAny_call_function hr.depth (KX _ _ lk) rfl S.co S.gen rfl (PySem.W.codeRec_of KX hcd) (hb _ _ _ _ (wpAny_newFunctionEnv_cells S.kind kinds fun env he s1 x => ?_))
  subst he
  refine ⟨lim.keeps x.toInCall.keep, codeAny_func ?_⟩
  have I : Inv (L2H.cxH CX P w K mg base N qual scope f cdv A outer s H E p) [] (L2.start N vs) H s1 := L2H.inv_startH S hpin e0 hl r x
  refine wpAny_mono (hbody.run [] s1 (L2.start N vs) H _ I hq) (fun fl s' hs => ?_) fun _ _ hs => hs
  cases fl with
  | ret u =>
    obtain ⟨v, σ', H', J, rv, q⟩ := hs
    exact ⟨v, H', J.os, J.bare, J.base, J.hok, rv, q⟩
  | next =>
    obtain ⟨σ', H', J, q⟩ := hs
    exact ⟨V.non, H', J.os, J.bare, J.base, J.hok, rfl, q⟩
  | brk =>
    obtain ⟨_, _, _, q⟩ := hs
    exact False.elim q
  | cont =>
    obtain ⟨_, _, _, q⟩ := hs
    exact False.elim q
theorem cx_none {P : Program} {w : World} {outer : List PySem.Env} {H : Hp} {s : Shared} {u : Value} {s' : Shared} (c : L2.CX P w outer H s (fun _ _ _ => False) u s') : False := by
  obtain ⟨_, _, _, _, _, _, _, _, _, _, _, _, _, z⟩ := c

/-! ### what the law's two helpers do -/
section
variable (P : Program) (w : World) (K : PySem.W.Frag) (mg : Str → Option Value) (base : Heap) (G : Hd) (cx : Nat → List D → Wd → Value → Option Addr → Prop) (B : Base)
/-- _law_refusal, called with the caught error -/
structure RefOk (r : Addr) : Prop where
  run : ∀ (A : Around) (outer : List PySem.Env) (s : Shared) (p : Addr × Obj) (k : Nat) (vs : List D) (w0 : Wd) (d : D) (Q : VK), L2H.RoomH 1 A → L2H.PinOk outer w0.H s p → Env0 P w K mg base A outer s w0.H → WOk G w0 → cx k vs w0 p.2.cls p.2.dict → (∃ fs, p.2.data = .fields fs) → B.ref k vs = some d →
    (∀ w' v, Ext w0 w' → WOk G w' → w'.S = w0.S → RepV G w'.F w'.M d v → Q v w'.H) → codeAny (model P w) A (.call (.ref r) ⟨[.ref p.1], []⟩) (CR (L2.CX P w) outer P w w0.H s Q fun _ _ _ => False) s
structure ToldF : Prop where
  ex : ∃ (g r CS : Addr) (name : Str) (params : Arguments) (sg : Scope) (dV kV doc pm cdv ct oc : Value) (an od : Option Addr) (osl : Array (Option Value)) (k1 k2 : Nat) (p1 p2 p3 p4 p5 p6 p7 p8 p9 p10 p11 p12 : Pos),
    mg "_law_told" = some (.ref g) ∧ PySem.W.keepIn K (.ref g) = true ∧ mg "_law_refusal" = some (.ref r) ∧ PySem.W.keepIn K (.ref r) = true ∧ mg "RowError" = some (.ref CS) ∧
    K.lookup g = some ⟨oc, od, .func (PySem.W.fnOf name "_law_told" params [.Try [.Return (some (.Tuple [.Constant (.str "told") k1 p1, .Call (.Name "call" p2) [] [] p3] k2 p4)) p5] [.ExceptHandler (some (.Name "RowError" p6)) (some "e") [.Return (some (.Call (.Name "_law_refusal" p7) [.Name "e" p8] [] p9)) p10] p11] [] [] p12] sg dV kV doc pm an cdv ct), osl⟩ ∧
    PySem.W.codeIn K cdv "_law_told" = true ∧ FnScope ["call", "e"] ["call"] sg ∧ sg.names.lookup ("call" : Str) = some .local ∧ sg.names.lookup ("e" : Str) = some .local ∧ sg.names.lookup ("RowError" : Str) = some .globalImplicit ∧ sg.names.lookup ("_law_refusal" : Str) = some .globalImplicit ∧
    (∀ us : List Value, us.length = 1 → bindArgs (PySem.W.fnOf name "_law_told" params [.Try [.Return (some (.Tuple [.Constant (.str "told") k1 p1, .Call (.Name "call" p2) [] [] p3] k2 p4)) p5] [.ExceptHandler (some (.Name "RowError" p6)) (some "e") [.Return (some (.Call (.Name "_law_refusal" p7) [.Name "e" p8] [] p9)) p10] p11] [] [] p12] sg dV kV doc pm an cdv ct) ⟨us, []⟩ = pure ((["call"] : List Str).zip us)) ∧
    RefOk P w K mg base G cx B r ∧ ∀ (k : Nat) (vs : List D) (w : Wd) (cls : Value) (d : Option Addr), cx k vs w cls d → PySem.W.exmOne K cls (.ref CS) = some true
end

/-! ### call(), within the try -/
section
variable {P : Program} {w : World} {K : PySem.W.Frag} {mg : Str → Option Value} {base : Heap} {N : List Str} {L : LF} {f c : Addr} {dV : Value} {qs : List (Str × Int)} {σ : Sl} {k : Nat} {tb : XK → TE}
theorem pe_act0 {Nt : List Str} {x a : Str} {sg : Scope} {g : Addr} {cdg : Value} {A : Around} {outer : List PySem.Env} {s : Shared} {H : Hp} {Eg : XK} {pn : List (Addr × Obj)} {xe : Value → Shared → Prop} {W : WX} {E : XK} {p1 p2 : Pos}
    (tk : Takes ((cxOf (L2.CX P w) P w K mg base Nt x sg g cdg A outer s H Eg).tr pn xe) W) (hW : ∀ cls d σ' H', E cls d H' → W cls d σ' H') (hr : Room (k + 1) (A.deeper (envOfC x sg s.heap.objs.size g cdg)))
    (hp : lamPar L.params = some qs) (S : LamSc N (qs.map (·.1)) L.scope) (C : CapR L.cl L.scope N σ s.heap H) (nf : ∀ y c, L.cl.lookup y = some c → c ∉ frs outer) (hl : σ.length = N.length)
    (hbody : ∀ (A : Around) (outer : List PySem.Env) (s : Shared) (H : Hp), Room k (A.deeper (envL L c f s.heap.objs.size)) → PE (lcx P w K mg base N L c f A outer s H E) L.body (tb E))
    (hN : Nt[0]? = some a) (hv : Vis sg a) (hd : (a == ("__debug__" : Str)) = false) (hcd : (a == ("__classdict__" : Str)) = false) :
    PE ((cxOf (L2.CX P w) P w K mg base Nt x sg g cdg A outer s H Eg).tr pn xe) (.Call (.Name a p1) [] [] p2)
      (fun σZ HZ Q => σZ[0]? = some (some (.ref f)) ∧ HZ f = some (LmO f L c dV) ∧ HZ c = some (LamX.CodeO c L.qual) ∧ DefF HZ qs dV ∧ tb E σ HZ Q) := by
  refine ⟨fun pinsZ sZ σZ HZ Q IZ h => ?_⟩
  obtain ⟨hs, hf, hc, hd', ht⟩ := h
  refine wpAny_Call_Name_kw (thn ((pe_var (pos := p1) (i := 0) hN hv hd hcd).run pinsZ sZ σZ HZ (fun v H1 => v = .ref f ∧ H1 = HZ) IZ ⟨.ref f, hs, rfl, rfl⟩) fun u s1 ⟨v, H1, I1, r1, ev, eH⟩ => ?_)
  subst ev
  rw [eH] at I1
  obtain rfl : u = Value.ref f := r1
  obtain ⟨doc, pm, ct, of1⟩ := lm_at I1.hok hf
  refine PySem.W.callWith_F0 ⟨_, _, _, _, of1⟩ ?_
  have C1 : CapR L.cl L.scope N σ s1.heap HZ := CapR.later (X := (cxOf (L2.CX P w) P w K mg base Nt x sg g cdg A outer s H Eg).tr pn xe) C nf (fun y c _ z => absurd (show c ∈ ([] : List Addr) from z) (by simp)) I1
  refine wpAny_call (codeAny_mono (lam_run (E := E) hr I1.env0 hf hc hp hd' S C1 hl (fun hr2 => hbody _ _ s1 HZ hr2) ht) fun r s' hq => ?_)
  cases r with
  | error e => exact passes_call tk hW pinsZ σZ HZ s1 e s' I1 hq
  | ok fl =>
    cases fl with
    | ret u => exact I1.after hq
    | next => exact False.elim hq
    | brk => exact False.elim hq
    | cont => exact False.elim hq
end

/-! ### _law_told called -/
section
variable {G : Hd} {cx : Nat → List D → Wd → Value → Option Addr → Prop} {B : Base} {N : List Str} {L : LF} {f : Addr} {Z : Fm} {g : Env → Store → R D}
/-- what is wanted behind a call that is told -/
def PostT (B : Base) (G : Hd) (w0 : Wd) (r : R D) (Q : VK) : Prop := match toldR B r with
  | .ok d S' => ∀ w' v, Ext w0 w' → WOk G w' → w'.S = S' → RepV G w'.F w'.M d v → Q v w'.H
  | _ => False
theorem told_run {Y : Cx} {pins : List (Addr × Obj)} {σY σ : Sl} {s : Shared} {w0 : Wd} {ρ : Env} {Q : VK} {j : Nat} (T : ToldF Y.prog Y.w Y.K Y.mg Y.base Z.G Z.cx B) (I : Inv Y pins σY w0.H s) (ok : WOk Z.G w0) (hL : LamAt w0 L f) (env : EnvR Z w0 σ ρ)
    (S : ∀ qs, lamPar L.params = some qs → LamSc N (qs.map (·.1)) L.scope) (C : CapR L.cl L.scope N σ s.heap w0.H) (nf : ∀ y c, L.cl.lookup y = some c → c ∉ frs Y.stack) (hl : σ.length = N.length) (hr : Room (j + 2) Y.A)
    (hbody : ∀ (c f : Addr) (A : Around) (outer : List PySem.Env) (s : Shared) (H : Hp) (E : XK), Room j (A.deeper (envL L c f s.heap.objs.size)) → PE (lcx Y.prog Y.w Y.K Y.mg Y.base N L c f A outer s H E) L.body (tG { Z with Wx := fun cls d _ H' => E cls d H' } g))
    (p : PostT B Z.G w0 (g ρ w0.S) Q) : ∃ gA : Addr, Y.mg "_law_told" = some (.ref gA) ∧ PySem.W.keepIn Y.K (.ref gA) = true ∧ wpAny (model Y.prog Y.w) Y.A (call (.ref gA) [.ref f]) (EP Y pins σY Q) Y.xe s := by
  obtain ⟨gA, r, CS, name, params, sg, dV', kV, doc, pm, cdv, ct, oc, an, od, osl, k1, k2, p1, p2, p3, p4, p5, p6, p7, p8, p9, p10, p11, p12, m1, k1', m2, k2', m3, lk, hcd, Sg, l1, l2, l3, l4, hb, hR, hx⟩ := T.ex
  refine ⟨gA, m1, k1', ?_⟩
  obtain ⟨c, dV, qs, hp, hf, hc, hcM, hdf⟩ := hL
  have rc : codeAny (model Y.prog Y.w) Y.A (.call (.ref gA) ⟨[.ref f], []⟩) (CR (L2.CX Y.prog Y.w) Y.stack Y.prog Y.w w0.H s Q fun _ _ _ => False) s := by
    refine LamX.run_ofS (N := ["call", "e"]) (ps := ["call"]) (us := [.ref f]) (vs := [.ref f]) lk hcd Sg hr I.env0 (.of_eq (hb _ rfl)) (.cons rfl .nil) rfl fun hr1 => ?_
    refine ⟨_, pss_one (ps_try_as (i := 1) (Wout := fun _ _ _ _ => False) (c := .ref CS)
      (tb := fun W D σZ HZ => σZ[0]? = some (some (.ref f)) ∧ HZ = w0.H ∧ (∀ d w' v, g ρ w0.S = .ok d w'.S → Ext w0 w' → WOk Z.G w' → RepV Z.G w'.F w'.M d v → ∀ q, w'.H q = none → D.rt (.ref q) (upd w'.H q (.tup [.str "told", v]))) ∧
        (∀ k vs w' cls dx σ', g ρ w0.S = .ex k vs w'.S → Ext w0 w' → WOk Z.G w' → Z.cx k vs w' cls dx → W cls dx σ' w'.H) ∧ g ρ w0.S ≠ .no)
      (ts := fun a cls d D σZ HZ => (σZ.length = 2 → σZ[1]? = some (some (.ref a))) ∧ ∃ k vs w1 dr, w1.H = HZ ∧ WOk Z.G w1 ∧ Z.cx k vs w1 cls d ∧ B.ref k vs = some dr ∧ ∀ w' v, Ext w1 w' → WOk Z.G w' → w'.S = w1.S → RepV Z.G w'.F w'.M dr v → D.rt v w'.H)
      rfl rfl Sg.nd rfl l2 ⟨l3, rfl, .inl m3⟩ L2.takes0 (fun W pn xe tk _ => ?_) (fun a oe cls d pn hz hfs => ?_)), ?_⟩
    · -- the body
      refine pss_one (PS.imp (ps_ret (pe_tup (pa_cons pe_str (pa_cons (pe_act0 (a := "call") (f := f) (c := c) (dV := dV) (qs := qs) (σ := σ) (N := N) (L := L) (k := j) (tb := fun E => tG { Z with Wx := fun cls d _ H' => E cls d H' } g) (E := fun cls dx H' => ∀ σ', W cls dx σ' H') tk (fun _ _ σ' _ h => h σ') hr1 hp (S _ hp) C nf hl (fun A outer s H hr2 => hbody c f A outer s H _ hr2) rfl (.inl l1) rfl rfl) pa_nil)))) fun D σZ HZ h => ?_)
      obtain ⟨h0, rfl, hok, hex, hno⟩ := h
      refine ⟨h0, ok.sub _ _ hf, hc, hdf.mono ok.sub, ρ, w0, rfl, ok, ⟨env.len, fun i d e => ?_, env.dis⟩, ?_⟩
      · obtain ⟨v, q1, q2, q3⟩ := env.val i d e
        refine ⟨v, q1, fun hi => ?_, q3⟩
        have := q2 hi
        cases d with
        | lst ds => exact this
        | clo _ _ => exact this
        | _ => exact this.elim
      · cases eg : g ρ w0.S with
        | no => exact absurd eg hno
        | ok d S' =>
          intro w' x1 ok1 s1 v rv
          subst s1
          exact ⟨by show 2 ≤ sizeLine; decide, fun q hq => hok d w' v eg x1 ok1 rv q hq⟩
        | ex k vs S' =>
          intro w' cls dx x1 ok1 s1 hcx σ'
          subst s1
          exact hex k vs w' cls dx σ' eg x1 ok1 hcx
    · -- the suite
      refine pss_one (PS.imp (ps_ret (te := fun (σZ : Sl) (HZ : Hp) (Q : VK) => (σZ.length = 2 → σZ[1]? = some (some (V.ref a))) ∧ ∃ (k : Nat) (vs : List D) (w1 : Wd) (dr : D), w1.H = HZ ∧ WOk Z.G w1 ∧ Z.cx k vs w1 cls d ∧ B.ref k vs = some dr ∧ ∀ w' v, Ext w1 w' → WOk Z.G w' → w'.S = w1.S → RepV Z.G w'.F w'.M dr v → Q v w'.H)
        ⟨fun pins1 s1 σ1 H1 Q1 I1 h => ?_⟩) fun D σ H h => h)
      obtain ⟨h1, k, vs, w1, dr, rfl, ok1, hcx, hd, q⟩ := h
      refine wpAny_Call_Name_kw (ld_glob I1 l4 m2 ?_ rfl)
      refine PySem.W.callWith_K (h₀ := Y.base) I1.ok.mod.kin k2' (thn ((pa_cons (pe_var (i := 1) rfl (.inl l2) rfl rfl) pa_nil).run p9 pins1 s1 σ1 w1.H (fun xs H => xs = [.ref a] ∧ H = w1.H) I1 ⟨_, h1 I1.len, rfl, rfl⟩) fun us s2 ⟨vs2, H2, I2, r2, e1, e2⟩ => ⟨I2.kIn, ?_⟩) rfl rfl
      subst e1
      subst e2
      rw [Vals.ref1 r2]
      have P1 := I2.pin (a, oe) (List.mem_append_left _ List.mem_cons_self)
      have hpin : L2H.PinOk (Cx.suite (cxOf (L2.CX Y.prog Y.w) Y.prog Y.w Y.K Y.mg Y.base ["call", "e"] "_law_told" sg gA cdv Y.A Y.stack s w0.H fun _ _ _ => False) a ((a, oe) :: pn)).stack w1.H s2 (a, oe) :=
        ⟨P1.1, P1.2.1, fun hm => (List.mem_cons.mp (I2.stkSub a hm)).elim P1.2.2.1 P1.2.2.2.1, P1.2.2.2.2⟩
      have hrH : L2H.RoomH 1 (Cx.suite (cxOf (L2.CX Y.prog Y.w) Y.prog Y.w Y.K Y.mg Y.base ["call", "e"] "_law_told" sg gA cdv Y.A Y.stack s w0.H fun _ _ _ => False) a ((a, oe) :: pn)).A := by
        have := L2H.roomH_of (hr1.mono (show 1 ≤ j + 1 by omega))
        exact ⟨this.dp, this.un⟩
      refine wpAny_call (codeAny_mono (hR.run _ _ s2 (a, oe) k vs w1 dr _ hrH hpin I2.env0 ok1 (by rw [hz.1, hz.2]; exact hcx) hfs hd q) fun rr s' hq => ?_)
      cases rr with
      | error e => exact (cx_none hq).elim
      | ok fl =>
        cases fl with
        | ret u => exact I2.after hq
        | next => exact False.elim hq
        | brk => exact False.elim hq
        | cont => exact False.elim hq
    · -- the answers
      refine ⟨rfl, rfl, fun d w' v eg x1 ok1 rv q hq => ?_, fun k vs w' cls dx σ' eg x1 ok1 hcx => ?_, fun eg => ?_⟩
      · rw [eg] at p
        refine p (w'.new q (.tup [.str "told", v])) (.ref q) (x1.trans (Wd.new_ext ok1.sub hq)) (ok1.new hq (fun ps z => by cases z)) rfl ?_
        have rv' : RepV Z.G (w'.new q (.tup [.str "told", v])).F (w'.new q (.tup [.str "told", v])).M d v := rv.ext (Wd.new_ext ok1.sub hq)
        simp only [RepV, RepL]
        exact ⟨q, [.str "told", v], rfl, .inl (.inl upd_same), _, [v], rfl, rfl, v, [], rfl, rv', rfl⟩
      · refine ⟨true, hx k vs w' cls dx hcx, fun _ a na => ?_, fun z => by cases z⟩
        rw [eg] at p
        unfold PostT toldR at p
        cases er : B.ref k vs with
        | none =>
          simp only [er, of_none] at p
        | some dr =>
          simp only [er, of_some] at p
          refine ⟨fun z => ?_, k, vs, w', dr, rfl, ok1, hcx, er, fun w2 v x2 ok2 s2 rv => p w2 v (x1.trans x2) ok2 s2 rv⟩
          exact List.getElem?_set_self (by rw [List.length_set] at z; omega)
      · rw [eg] at p
        exact p
  refine wpAny_call (codeAny_mono rc fun rr s' hq => ?_)
  cases rr with
  | error e => exact (cx_none hq).elim
  | ok fl =>
    cases fl with
    | ret u => exact I.after hq
    | next => exact False.elim hq
    | brk => exact False.elim hq
    | cont => exact False.elim hq
end
end RB

set_option Elab.async false
set_option linter.all false
set_option maxRecDepth 100000
set_option maxHeartbeats 4000000
set_option autoImplicit false
/-! A list comprehension whose elements may look at the frame around, as it stood at the block's start. -/
namespace RB
open PySem PySem.Spec PyProof.Rows L2

section
variable {X : Cx} {elt tg iter : Expr} {scope : Scope} {own : List (Str × Nat)} {pos : Pos} {wi : TI} {g : TG} {te : Sl → TE}
/-- what the elements may know -/
def Seen (X : Cx) (elt : Expr) (scope : Scope) (te : Sl → TE) : Prop := ∀ (pins : List (Addr × Obj)) (s : Shared) (σ : Sl) (H : Hp) (fp : List Addr), Inv X pins σ H s → (∀ b ∈ fp, FpOk X pins H b) →
  ∀ (C : Addr) (cl : List (Str × Addr)), PE (X.blk s H scope (compEnvC scope cl C X.env) fp) elt (te σ)
theorem pe_lcW (hc : X.calm = true) (hN : X.N.Nodup) (hi : PI X tg iter wi) (ok : BlkOk X.N X.env.scope scope own) (hg : ∀ (s : Shared) (H : Hp) (C : Addr) (cl : List (Str × Addr)) (fp : List Addr), PG (X.blk s H scope (compEnvC scope cl C X.env) fp) tg g)
    (he : Seen X elt scope te) (hs : ∀ x, foldedSetIterable iter X.env x = pure x) : PE X (.ListComp elt [⟨tg, iter, [], 0⟩] scope pos) (fun σ H Q => tLc wi g tYes (te σ) (own.map (·.2)) σ H Q) := by
  refine ⟨fun pins s σ H Q I h => ?_⟩
  rw [eval_ListComp]
  have free : ∀ y ∈ scope.names, y.2 = .free → ∃ c, X.env.cells.lookup y.1 = some c := fun y hy e => (ok.free y hy e).elim (fun k => I.ok.has _ (.inl k)) fun k => I.ok.has _ (.inr k)
  refine wpAny_comprehension_free (use := none) rfl hs (closure_ok free) ok.kind (fun y hy e => by rw [ok.uniq y hy, e]) (thn (hi.run pins s σ H _ I h) fun xv sa hx => thn hx fun itv s2 h2 => ?_)
  obtain ⟨it, fp, tn, J, H2, rfl, I2, T, st2, f2, q⟩ := h2
  refine wpAny_newObj_type (newEnv_comp ?_) (by show 0 ≤ sizeLine; decide)
  generalize hD : s2.heap.objs.size = L0
  obtain ⟨W, ⟨m0, w0⟩, turn⟩ := q L0 (I2.hok.fresh (Nat.le_of_eq hD))
  generalize hs3 : ({ s2 with heap := s2.heap.push { cls := .type "list", data := .seq ([] : List Value).toArray } } : Shared) = s3
  have eh : s3.heap = s2.heap.push { cls := .type "list", data := .seq ([] : List Value).toArray } := by rw [← hs3]
  have I3 : Inv X pins σ (upd H2 L0 (.lst [])) s3 := by
    rw [← hs3]
    exact I2.laid (t' := s2.toks) (fun b o e => Heap.get?_push_of_some _ e) (Nat.le_of_eq hD) ⟨Nat.zero_le _, [], 0, .nil, by rw [← hD]; exact Heap.get?_push_size _ rfl⟩
  have below : ∀ b ∈ fp, b < s2.heap.objs.size := fun b hb => by
    obtain ⟨o, e, _⟩ := T.obj _ _ st2 b hb
    exact Heap.lt_size e
  have f3 : ∀ b ∈ fp, FpOk X pins (upd H2 L0 (.lst [])) b ∧ b < s3.heap.objs.size := fun b hb => by
    have lt := below b hb
    refine ⟨⟨?_, (f2 b hb).2⟩, by rw [eh, Heap.size_push]; exact Nat.lt_succ_of_lt lt⟩
    rw [upd_ne (by rw [← hD]; exact Nat.ne_of_lt lt)]
    exact (f2 b hb).1
  have st3 : tn 0 s3.heap := T.keep _ _ _ st2 fun b _ o e => by rw [eh]; exact Heap.get?_push_of_some _ e
  have I4 := block_start I3 ok hN f3
  have pg := hg s3 (upd H2 L0 (.lst [])) s3.heap.objs.size (cellsFrom (s3.heap.objs.size + 1) scope.names (cloFrom X.env.cells scope.names [])) fp
  have pe := he pins s3 σ (upd H2 L0 (.lst [])) fp I3 (fun b hb => (f3 b hb).1) s3.heap.objs.size (cellsFrom (s3.heap.objs.size + 1) scope.names (cloFrom X.env.cells scope.names []))
  show codeAny _ _ (.compStart (.ListComp elt [⟨tg, iter, [], 0⟩] scope pos) 0 (.ref it) (.ref L0) (compEnvC scope (cellsFrom (s3.heap.objs.size + 1) scope.names (cloFrom X.env.cells scope.names [])) s3.heap.objs.size X.env))
    (compPost (model X.prog X.w) X.A X.xe none (EP X pins σ Q) (.ref L0) s3.heap.objs.size) { s3 with heap := pushCells (s3.heap.push { cls := .type "dict", data := .dict #[] }) scope.names }
  have nfp : ∀ b ∈ fp, (upd H2 L0 (.lst [])) b = none := fun b hb => (f3 b hb).1.1
  generalize hce : compEnvC scope (cellsFrom (s3.heap.objs.size + 1) scope.names (cloFrom X.env.cells scope.names [])) s3.heap.objs.size X.env = ce at I4 pg pe ⊢
  have cL : ce.locals = s3.heap.objs.size := by subst hce; rfl
  generalize hH3 : upd H2 L0 (.lst []) = H3 at I3 I4 pg pe w0 nfp f3
  generalize hs4 : ({ s3 with heap := pushCells (s3.heap.push { cls := .type "dict", data := .dict #[] }) scope.names } : Shared) = s4 at I4 ⊢
  have st4 : tn 0 s4.heap := T.keep _ _ _ st3 fun b _ o e => by rw [← hs4]; exact pushCells_keeps _ _ _ _ (Heap.get?_push_of_some _ e)
  have still : ∀ {σ' : Sl} {H' : Hp} {s' : Shared}, Inv (X.blk s3 H3 scope ce fp) [] σ' H' s' → (∀ b ∈ fp, H' b = none) → ∀ b ∈ fp, FpOk (X.blk s3 H3 scope ce fp) [] H' b := fun {σ' H' s'} J hn b hb =>
    ⟨hn b hb, (J.ok.exf b hb).1, J.ok.exfs b hb, .inl hb, fun x c e => (J.ok.exf b hb).2 x c e, fun p hp => absurd (show p ∈ ([] : List (Addr × Obj)) ++ [] from hp) (by simp)⟩
  have loop : codeAny (model X.prog X.w) X.A (.compLoop (.ListComp elt [⟨tg, iter, [], 0⟩] scope pos) 0 (.ref it) (.ref L0) ce) (compPost (model X.prog X.w) X.A X.xe none (EP X pins σ Q) (.ref L0) s3.heap.objs.size) s4 := by
    refine compLoop_any (fun n s' => ∃ i H', Inv (X.blk s3 H3 scope ce fp) [] (wipe σ (own.map (·.2))) H' s' ∧ tn i s'.heap ∧ (∀ b ∈ fp, H' b = none) ∧ W i n H') ?_ m0 ⟨0, H3, I4, st4, nfp, w0⟩
    rintro n s5 ⟨i, H5, I5, st5, n5, w5⟩
    rcases turn i n H5 w5 with ⟨stop, qq⟩ | ⟨go, Nx, hNx, step⟩
    · refine thnF (T.done (X.blk s3 H3 scope ce fp) rfl rfl rfl hc i [] s5 _ H5 (fun _ _ => False) I5 (still I5 n5) st5 stop) fun r s6 ⟨hr, I6⟩ => ?_
      subst hr
      have I7 : Inv X pins σ H5 s6 := I3.call' (ch := fp) I6.os I6.base I6.hok I6.bare fun b hb => ⟨(f3 b hb).1.2.2.2.1, (f3 b hb).1.2.1, (f3 b hb).1.2.2.2.2.1, (f3 b hb).1.2.2.2.2.2⟩
      have nC : H5 s3.heap.objs.size = none := by
        have z : H5 ce.locals = none := I6.free
        rwa [cL] at z
      obtain ⟨m, hn, _⟩ := I6.loc
      have hn : s6.heap.Ns ce.locals m := hn
      rw [cL] at hn
      obtain ⟨f0, f1, f2', f3', f4, f5⟩ := I3.fpOk (H' := H5) (Nat.le_refl _) nC
      exact ⟨m, hn, fun h'' sb => ⟨.ref L0, H5, I7.turned (t' := s6.toks) (fun b o hb e => (sb.2 b hb).trans e) f0 f1 f3' f4 f5, rfl, qq⟩⟩
    · refine thnF (T.item (X.blk s3 H3 scope ce fp) rfl rfl rfl hc i [] s5 _ H5 (fun _ _ => False) I5 (still I5 n5) st5 go) fun r s6 ⟨u, hr, h6⟩ => ?_
      subst hr
      refine thnF h6 fun _ s7 ⟨x, H7, I7, r7, y7, st7, n7⟩ => ?_
      refine thnF (pg.run _ s7 _ H7 x u _ (I7.pinned (still I7 n7) (T.obj _ _ st7)) r7 (step x H7 y7)) fun _ s8 ⟨σ8, H8, I8, hw8, q8⟩ => ?_
      refine thnF ((pts_nil (X := X.blk s3 H3 scope ce fp)).run _ s8 σ8 H8 _ I8 q8) fun b s9 ⟨H9, I9, q9⟩ => ?_
      have next : ∀ {s' : Shared} {H' : Hp}, Inv (X.blk s3 H3 scope ce fp) ([] ++ pinsAt fp s7.heap) σ8 H' s' → Nx H' → ∃ m, m < n ∧ ∃ i H', Inv (X.blk s3 H3 scope ce fp) [] (wipe σ (own.map (·.2))) H' s' ∧ tn i s'.heap ∧ (∀ b ∈ fp, H' b = none) ∧ W i m H' := fun {s' H'} J nx => by
        obtain ⟨m', hm, w'⟩ := hNx H' nx
        have pinned : ∀ b ∈ fp, ∀ o, s7.heap.get? b = some o → s'.heap.get? b = some o ∧ H' b = none := fun b hb o e =>
          let z := J.pin (b, o) (List.mem_append_right _ (List.mem_append_right _ (mem_pinsAt hb e)))
          ⟨z.1, z.2.1⟩
        refine ⟨m', hm, i + 1, H', (J.unpinned (pins := [])).weak (by rw [← hw8, wipe_length]) (fun j v e => ?_), T.keep _ _ _ st7 fun b hb o e => (pinned b hb o e).1, fun b hb => ?_, w'⟩
        · rw [← hw8] at e
          exact (wipe_some e).1
        · obtain ⟨o, e, _⟩ := T.obj _ _ st7 b hb
          exact (pinned b hb o e).2
      cases b with
      | false =>
        simp only [Bool.false_eq_true, if_false] at q9 ⊢
        exact next I9 q9
      | true =>
        simp only [if_true] at q9 ⊢
        refine thnF (pe.run _ s9 σ8 H9 _ I9 q9) fun z s10 ⟨yv, H10, I10, r10, acc, hD10, hz10, nx⟩ => ?_
        exact app_ok (X := X.blk s3 H3 scope ce fp) I10 hD10 hz10 r10 fun s11 I11 => next I11 nx
  exact codeAny_compStart_list loop (T.self X.A 0 _ _ _ st4 loop)
end
end RB

set_option Elab.async false
set_option linter.all false
set_option maxRecDepth 100000
set_option maxHeartbeats 4000000
set_option autoImplicit false
/-! _law_told(lambda ..: e), calls = [lambda .., ..], [_law_told(call) for call in calls]: their rules. -/
namespace RB
open PySem PySem.Spec PyProof.Rows L2

/-- the running def may make lambdas -/
def MkF (Z : Fm) (X : Cx) : Prop := ∃ (c P : Addr) (nm : Nat → Nat → Str), LamX.TabB X.base X.mg c P ∧ X.env.code = .ref c ∧ (P, nm) ∈ Z.G.T ∧ (∀ l k, nm l k = X.env.qual ++ "<lambda>") ∧ ∀ p ∈ Z.G.T, p.1 = P → p.2 = nm
structure LamOkX (X : Cx) (params : Arguments) (scope : Scope) : Prop where
  par : ∃ qs, lamPar params = some qs ∧ LamSc X.N (qs.map (·.1)) scope
  free : FreeIn X scope
  fn : ∀ y ∈ scope.names, y.2 = .free → X.fn y.1 = true
/-- a lambda's body has this meaning, wherever it is called -/
def BodyIs (Z : Fm) (X : Cx) (j : Nat) (L : LF) (g : Env → Store → R D) : Prop := ∀ (c f : Addr) (A : Around) (outer : List PySem.Env) (s : Shared) (H : Hp) (E : XK), Room j (A.deeper (envL L c f s.heap.objs.size)) →
  PE (lcx X.prog X.w X.K X.mg X.base X.N L c f A outer s H E) L.body (tG { Z with Wx := fun cls d _ H' => E cls d H' } g)
def LamR (Z : Fm) (X : Cx) (B : Base) (C0 : Calls) (j : Nat) (e : I) (L : LF) : Prop := ∃ params body scope, L = lfOf X params body scope ∧ LamOkX X params scope ∧ BodyIs Z X j L (ev C0 B e)
def LamsR (Z : Fm) (X : Cx) (B : Base) (C0 : Calls) (j : Nat) : I → List LF → Prop
  | .nil, Ls => Ls = []
  | .cons a as, Ls => ∃ L r, Ls = L :: r ∧ LamR Z X B C0 j a L ∧ LamsR Z X B C0 j as r
  | _, _ => False
def LamEs (X : Cx) : List Expr → List LF → Prop
  | [], Ls => Ls = []
  | .Lambda params body scope _ :: es, Ls => ∃ r, Ls = lfOf X params body scope :: r ∧ LamOkX X params scope ∧ LamEs X es r
  | _ :: _, _ => False

section
variable {Z : Fm} {X : Cx} {pos : Pos}
theorem pe_lam {params : Arguments} {body : Expr} {scope : Scope} (mk : MkF Z X) (lo : LamOkX X params scope) :
    PE X (.Lambda params body scope pos) (fun _ H Q => ∃ w, w.H = H ∧ WOk Z.G w ∧ ∀ (f : Addr) (w' : Wd), Ext w w' → WOk Z.G w' → w'.S = w.S → LamAt w' (lfOf X params body scope) f → Q (.ref f) w'.H) := by
  refine ⟨fun pins s σ H Q I h => ?_⟩
  obtain ⟨w, rfl, ok, q⟩ := h
  obtain ⟨c, P, nm, tb, hc, hm, hn, hu⟩ := mk
  obtain ⟨qs, hp, _⟩ := lo.par
  exact lam_made I ok tb hc hm (hn _ _) hu (free_cells I.ok lo.free) hp fun f w' s' I' x ok' es l => ⟨.ref f, w'.H, I', rfl, q f w' x ok' es l⟩
theorem pa_lams (mk : MkF Z X) : ∀ {es : List Expr} {Ls : List LF}, LamEs X es Ls → PA X es (fun _ H Q => ∃ w, w.H = H ∧ WOk Z.G w ∧ ∀ (vs : List V) (w' : Wd), Ext w w' → WOk Z.G w' → w'.S = w.S → LamsAt w' Ls vs → Q vs w'.H)
  | [], Ls, h => PA.imp pa_nil fun σ H Q ⟨w, e, ok, q⟩ => by
    subst e
    exact q [] w (Ext.refl w) ok rfl (by rw [show Ls = [] from h]; rfl)
  | e :: es, Ls, h => by
    cases e <;> try exact h.elim
    rename_i params body scope lpos
    obtain ⟨r, rfl, lo, h⟩ := h
    refine PA.imp (pa_cons (pe_lam mk lo) (pa_lams mk h) rfl) fun σ H Q ⟨w, e, ok, q⟩ => ?_
    refine ⟨w, e, ok, fun f w' x1 ok1 s1 l1 => ⟨w', rfl, ok1, fun vs w2 x2 ok2 s2 l2 => ?_⟩⟩
    exact q (.ref f :: vs) w2 (x1.trans x2) ok2 (s2.trans s1) ⟨f, vs, rfl, l1.ext x2, l2⟩
theorem lamEs_len : ∀ {es : List Expr} {Ls : List LF}, LamEs X es Ls → Ls.length = es.length
  | [], Ls, h => by rw [show Ls = [] from h]; rfl
  | e :: es, Ls, h => by
    cases e <;> try exact h.elim
    obtain ⟨r, rfl, _, h⟩ := h
    rw [List.length_cons, List.length_cons, lamEs_len h]
theorem lamsAt_len {w : Wd} : ∀ {Ls : List LF} {vs : List V}, LamsAt w Ls vs → vs.length = Ls.length
  | [], vs, h => by rw [show vs = [] from h]; rfl
  | L :: Ls, vs, h => by
    obtain ⟨f, r, rfl, _, h⟩ := h
    rw [List.length_cons, List.length_cons, lamsAt_len h]
/-- calls = [lambda .., ..] -/
theorem s_lams {i l : Nat} {x : Str} {es : List Expr} {Ls : List LF} {pos' p2 : Pos} (ok : XOk Z X) (mk : MkF Z X) (hi : X.N[i]? = some x) (hx : Loc X.env.scope x) (he : LamEs X es Ls) (hl : es.length ≤ LIM) (hlf : Z.lf l Ls)
    (hf : X.fn x = true ∨ X.env.scope.names.lookup x = some .local) (ho : i ∈ Z.O) : PS X (.Assign [.Name x pos'] (.List es p2) pos) (tS Z fun ρ S => setI ρ i (.clo l []) S) := by
  refine PS.imp (ps_set ok.nd hi hx (pe_lst (pa_lams mk he)) rfl hf) fun D σ H ⟨ρ, w, e, wok, r, e0, p⟩ => ?_
  refine ⟨w, e, wok, fun vs w1 x1 ok1 s1 la => ⟨by rw [lamsAt_len la, lamEs_len he]; exact lim_line hl, fun q n => ?_⟩⟩
  dsimp only at p
  unfold setI at p
  split at p
  · rename_i hil
    have x2 := Wd.new_ext ok1.sub (o := .lst vs) n
    have ok2 := ok1.new (o := .lst vs) n (fun ps z => by cases z)
    have r1 := r.ext x1
    refine p (σ.set i (some (.ref q))) (w1.new q (.lst vs)) (x1.trans x2).toF (e0.trans (x1.trans x2)) ok2 s1 (EnvR.drop (r1.ext x2) hil ho ⟨q, vs, Ls, rfl, upd_same, hlf, la.ext x2⟩ fun j e p hj hji hv hσ z => ?_)
    cases z
    obtain ⟨v, h1, h2, _⟩ := r1.val j e hv
    rw [hσ] at h1
    cases h1
    cases e with
    | lst es' =>
      obtain ⟨p', us, h3, _, _, _, h4, _⟩ := h2 hj
      cases h3
      rw [n] at h4
      cases h4
    | clo l _ =>
      obtain ⟨p', us, _, h3, h4, _⟩ := h2 hj
      cases h3
      have h5 := ok1.sub _ _ h4
      rw [n] at h5
      cases h5
    | _ => exact h2 hj
  · exact p.elim

theorem postT_of {B : Base} {σ : Sl} {w w1 : Wd} {r : R D} {Q : VK} (p : Post Z σ w (toldR B r) fun d w' => ∀ v, RepV Z.G w'.F w'.M d v → Q v w'.H) (x : Ext w w1) : PostT B Z.G w1 r Q := by
  have p1 := Post.ext p x
  unfold PostT
  cases r with
  | ok d S' => exact fun w' v a b c rv => p1 w' a b c v rv
  | no => exact p1.elim
  | ex c vs S' =>
    unfold toldR at p1 ⊢
    dsimp only at p1 ⊢
    cases er : B.ref c vs with
    | none =>
      rw [er] at p1
      exact p1.elim
    | some d =>
      rw [er] at p1
      exact fun w' v a b c rv => p1 w' a b c v rv
theorem nofr_of {pins : List (Addr × Obj)} {σ : Sl} {H : Hp} {s : Shared} {params : Arguments} {body : Expr} {scope : Scope} (I : Inv X pins σ H s) (lo : LamOkX X params scope) : ∀ y c, (lfOf X params body scope).cl.lookup y = some c → c ∉ frs X.stack := fun y c e => by
  have hc := free_cells I.ok lo.free
  have hm := cloFrom_mem (PySem.mem_of_lookup e)
  rcases hm with hm | ⟨h1, _⟩
  · cases hm
  · exact cell_nofr I (lo.fn _ h1 rfl) (NdefX.clo_cm hc e)
theorem ToldF.fn {P : Program} {w : World} {K : PySem.W.Frag} {mg : Str → Option Value} {base : Heap} {G : Hd} {cx : Nat → List D → Wd → Value → Option Addr → Prop} {B : Base} (T : ToldF P w K mg base G cx B) : ∃ gA : Addr, mg "_law_told" = some (.ref gA) ∧ PySem.W.keepIn K (.ref gA) = true := by
  obtain ⟨gA, r, CS, name, params, sg, dV', kV, doc, pm, cdv, ct, oc, an, od, osl, k1, k2, p1, p2, p3, p4, p5, p6, p7, p8, p9, p10, p11, p12, m1, k1', _⟩ := T.ex
  exact ⟨gA, m1, k1'⟩
/-- _law_told(lambda ..: e) -/
theorem g_told {B : Base} {g : Env → Store → R D} {j : Nat} {params : Arguments} {body : Expr} {scope : Scope} {p lpos : Pos} (ok : XOk Z X) (T : ToldF X.prog X.w X.K X.mg X.base Z.G Z.cx B) (mk : MkF Z X) (hg : Gl X "_law_told") (lo : LamOkX X params scope) (hr : Room (j + 2) X.A)
    (hb : BodyIs Z X j (lfOf X params body scope) g) : PE X (.Call (.Name "_law_told" p) [.Lambda params body scope lpos] [] pos) (tG Z fun ρ S => toldR B (g ρ S)) := by
  refine ⟨fun pins s σ H Q I h => ?_⟩
  obtain ⟨ρ, w, rfl, wok, r, q⟩ := h
  obtain ⟨gA, e1, k1⟩ := T.fn
  obtain ⟨c, P, nm, tb, hc, hm, hn, hu⟩ := mk
  obtain ⟨qs, hp, Sl⟩ := lo.par
  refine wpAny_Call_Name_kw (ld_glob I hg e1 ?_ rfl)
  refine PySem.W.callWith_K (h₀ := X.base) I.ok.mod.kin k1 ?_ rfl rfl
  show wpAny _ _ (spliced ((false, eval (.Lambda params body scope lpos) X.env) :: backTo pos (starEach [] X.env))) _ _ s
  refine Calls.spliced_cons (lam_made I wok tb hc hm (hn _ _) hu (free_cells I.ok lo.free) hp fun f w' s' I' x ok' es la => ?_)
  refine Calls.spliced_nil ⟨I'.kIn, ?_⟩
  obtain ⟨gB, e2, _, run⟩ := told_run (Y := X) (N := X.N) (L := lfOf X params body scope) (f := f) (j := j) (g := g) (σ := σ) T I' ok' la (r.ext x) (fun qs' hp' => by rw [hp] at hp'; cases hp'; exact Sl) (cap_of I' lo.free) (nofr_of I' lo) I'.len hr hb (by rw [es]; exact postT_of q x)
  rw [e1] at e2
  cases e2
  exact run
end
end RB

set_option Elab.async false
set_option linter.all false
set_option maxRecDepth 100000
set_option maxHeartbeats 4000000
set_option autoImplicit false
/-! [_law_told(call) for call in calls]: its rule. -/
namespace RB
open PySem PySem.Spec PyProof.Rows L2

theorem ok_fresh {G : Hd} {w : Wd} (ok : WOk G w) {p : Addr} (n : w.H p = none) {xs : List V} : WOk G { w with H := upd w.H p (.lst xs) } ∧ Ext w { w with H := upd w.H p (.lst xs) } := by
  refine ⟨⟨fun a o e => ?_, ok.nd, ok.len, fun k a so q1 q2 => ?_, tabs_upd ok.tab n, ok.ntb⟩, Sub.refl _, fun _ _ => rfl, fun a o e _ _ => ?_, fun a ha => ?_, [], by simp, by simp⟩
  · show upd w.H p _ a = _
    rw [upd_ne (ne_of_none (ok.sub a o e) n)]
    exact ok.sub a o e
  · obtain ⟨g1, g2⟩ := ok.st k a so q1 q2
    refine ⟨g1, ?_⟩
    cases so with
    | lst ds =>
      obtain ⟨us, q3, q4⟩ := g2
      exact ⟨us, by show upd w.H p _ a = _; rw [upd_ne (ne_of_none q3 n)]; exact q3, q4⟩
    | ins _ _ => exact g2.elim
  · show upd w.H p _ a = _
    rw [upd_ne (ne_of_none e n)]
    exact e
  · show upd w.H p _ a ≠ none
    intro z
    exact ha (NdefX.upd_none z)
/-- a list that is younger than the frame's own ones grows -/
theorem env_put {Z : Fm} {w0 w : Wd} {σ : Sl} {ρ : Env} (r0 : EnvR Z w0 σ ρ) (r : EnvR Z w σ ρ) {p : Addr} {us ys : List V} (n : w0.H p = none) (h : w.H p = some (.lst us)) : EnvR Z { w with H := upd w.H p (.lst ys) } σ ρ := by
  refine ⟨r.len, fun j e he => ?_, r.dis⟩
  obtain ⟨u, h1, h2, h3⟩ := r.val j e he
  refine ⟨u, h1, fun hj => ?_, h3⟩
  have o := h2 hj
  cases e with
  | lst es =>
    obtain ⟨a, ws, rfl, q1, q2, q3, q4, q5⟩ := o
    obtain ⟨u0, g1, g2, _⟩ := r0.val j _ he
    rw [h1] at g1
    cases g1
    obtain ⟨a', ws', e', _, _, _, g5, _⟩ := g2 hj
    cases e'
    have hne : a ≠ p := by
      rintro rfl
      rw [n] at g5
      cases g5
    exact ⟨a, ws, rfl, q1, q2, q3, by show upd w.H p _ a = _; rw [upd_ne hne]; exact q4, q5⟩
  | clo _ _ =>
    obtain ⟨a, ws, Ls, rfl, q1, qk, q2⟩ := o
    exact ⟨a, ws, Ls, rfl, q1, qk, q2.put h⟩
  | _ => exact o.elim

def dropI : Nat → I → I
  | 0, e => e
  | n + 1, .cons _ as => dropI n as
  | _ + 1, _ => .nil
theorem lamsR_at {Z : Fm} {X : Cx} {B : Base} {C0 : Calls} {j : Nat} : ∀ {es : I} {Ls : List LF} {i : Nat} {L : LF}, LamsR Z X B C0 j es Ls → Ls[i]? = some L → ∃ a, dropI i es = .cons a (dropI (i + 1) es) ∧ LamR Z X B C0 j a L := by
  intro es
  induction es with
  | nil =>
    intro Ls i L h e
    rw [show Ls = [] from h] at e
    simp at e
  | cons a as _ ih =>
    intro Ls i L h e
    obtain ⟨L', r, rfl, h1, h2⟩ := h
    cases i with
    | zero =>
      simp at e
      subst e
      refine ⟨a, ?_, h1⟩
      cases as <;> rfl
    | succ i => exact ih h2 (by simpa using e)
  | _ => intro Ls i L h; exact h.elim
theorem lamsR_end {Z : Fm} {X : Cx} {B : Base} {C0 : Calls} {j : Nat} : ∀ {es : I} {Ls : List LF}, LamsR Z X B C0 j es Ls → dropI Ls.length es = .nil := by
  intro es
  induction es with
  | nil =>
    intro Ls h
    rw [show Ls = [] from h]
    rfl
  | cons a as _ ih =>
    intro Ls h
    obtain ⟨L', r, rfl, h1, h2⟩ := h
    exact ih h2
  | _ => intro Ls h; exact h.elim
theorem lamsAt_get {w : Wd} : ∀ {Ls : List LF} {vs : List V} {i : Nat} {v : V}, LamsAt w Ls vs → vs[i]? = some v → ∃ L f, Ls[i]? = some L ∧ v = .ref f ∧ LamAt w L f
  | [], _, i, v, h, e => by
    rw [show _ = [] from h] at e
    simp at e
  | L :: Ls, vs, 0, v, h, e => by
    obtain ⟨f, r, rfl, h1, h2⟩ := h
    simp at e
    exact ⟨L, f, rfl, e.symm, h1⟩
  | L :: Ls, vs, i + 1, v, h, e => by
    obtain ⟨f, r, rfl, h1, h2⟩ := h
    obtain ⟨L', f', a, b, c⟩ := lamsAt_get (Ls := Ls) (vs := r) (i := i) (v := v) h2 (by simpa using e)
    exact ⟨L', f', by simpa using a, b, c⟩

section
variable {Z : Fm} {X : Cx} {pos : Pos}
/-- an element's reading: the lambda that the slot ic holds is told, the frame around has the slots σ -/
def tTold (Z : Fm) (X : Cx) (B : Base) (C0 : Calls) (j ic : Nat) (σ : Sl) : TE := fun σ2 H2 Q => ∃ (f : Addr) (L : LF) (a : I) (ρ : Env) (w : Wd), (σ2.length = X.N.length → σ2[ic]? = some (some (.ref f))) ∧ w.H = H2 ∧ WOk Z.G w ∧ LamAt w L f ∧ LamR Z X B C0 j a L ∧ EnvR Z w σ ρ ∧ PostT B Z.G w (ev C0 B a ρ w.S) Q
theorem seen_told {B : Base} {C0 : Calls} {j ic : Nat} {y : Str} {scope : Scope} {p py : Pos} (ok : XOk Z X) (T : ToldF X.prog X.w X.K X.mg X.base Z.G Z.cx B) (hr : Room (j + 2) X.A)
    (hg : ∀ (s : Shared) (H : Hp) (C : Addr) (cl : List (Str × Addr)) (fp : List Addr), Gl (X.blk s H scope (compEnvC scope cl C X.env) fp) "_law_told") (hv : ∀ (C : Addr) (cl : List (Str × Addr)), Vis (compEnvC scope cl C X.env).scope y) (hN : X.N[ic]? = some y) (hd : (y == ("__debug__" : Str)) = false) (hcd : (y == ("__classdict__" : Str)) = false) :
    Seen X (.Call (.Name "_law_told" p) [.Name y py] [] pos) scope (tTold Z X B C0 j ic) := by
  intro pins0 s0 σ H0 fp I0 hfp C cl
  refine ⟨fun pins s σ2 H2 Q I h => ?_⟩
  obtain ⟨f, L, a, ρ, w, hs, rfl, wok, la, lr, r, q⟩ := h
  obtain ⟨params, body, sc, rfl, lo, hb⟩ := lr
  obtain ⟨gA, e1, k1⟩ := T.fn
  refine wpAny_Call_Name_kw (ld_glob I (hg _ _ _ _ _) e1 ?_ rfl)
  refine PySem.W.callWith_K (h₀ := X.base) I.ok.mod.kin k1 (thn ((pa_cons (pe_var (X := X.blk s0 H0 scope (compEnvC scope cl C X.env) fp) (i := ic) hN (hv C cl) hd hcd) pa_nil rfl).run pos pins s σ2 w.H (fun xs H => xs = [.ref f] ∧ H = w.H) I ⟨_, hs I.len, rfl, rfl⟩) fun us s2 ⟨vs2, H3, I2, r2, e3, e4⟩ => ⟨I2.kIn, ?_⟩) rfl rfl
  subst e3
  subst e4
  rw [Vals.ref1 r2]
  have C2 : CapR (lfOf X params body sc).cl (lfOf X params body sc).scope X.N σ s2.heap w.H :=
    CapR.later (X := X.blk s0 H0 scope (compEnvC scope cl C X.env) fp) (cap_of I0 lo.free) (nofr_of (body := body) I0 lo) (fun y c e z => by
      have hc := free_cells I0.ok lo.free
      exact (hfp c z).2.2.2.2.1 y c (NdefX.clo_cm hc e) rfl) I2
  obtain ⟨qs, hp, Sl⟩ := lo.par
  obtain ⟨gB, e2, _, run⟩ := told_run (Y := X.blk s0 H0 scope (compEnvC scope cl C X.env) fp) (N := X.N) (L := lfOf X params body sc) (f := f) (j := j) (g := ev C0 B a) (σ := σ) T I2 wok la r (fun qs' hp' => by rw [hp] at hp'; cases hp'; exact Sl) C2 (nofr_of (body := body) I0 lo) I0.len hr hb q
  rw [e1] at e2
  cases e2
  exact run
/-- what is wanted behind the list of what is told, acc of it made -/
def PostTs (Z : Fm) (w1 : Wd) (r : R (List D)) (acc : List D) (Q : VK) : Prop := match r with
  | .ok r S' => ∀ w' v, Ext w1 w' → WOk Z.G w' → w'.S = S' → RepV Z.G w'.F w'.M (.lst (acc ++ r)) v → Q v w'.H
  | _ => False
theorem told_next {C0 : Calls} {B : Base} {a as : I} {ρ : Env} {S : Store} {w1 : Wd} {acc : List D} {Q : VK} (p : PostTs Z w1 (toldL C0 B (.cons a as) ρ S) acc Q) : ∃ d S', toldR B (ev C0 B a ρ S) = .ok d S' ∧ PostTs Z w1 (toldL C0 B as ρ S') (acc ++ [d]) Q := by
  unfold toldL at p
  cases e : toldR B (ev C0 B a ρ S) with
  | no => rw [e] at p; exact p.elim
  | ex c vs S' => rw [e] at p; exact p.elim
  | ok d S' =>
    rw [e, bind_ok] at p
    refine ⟨d, S', rfl, ?_⟩
    cases e2 : toldL C0 B as ρ S' with
    | no => rw [e2] at p; exact p.elim
    | ex c vs S2 => rw [e2] at p; exact p.elim
    | ok ds S2 =>
      rw [e2, bind_ok] at p
      intro w' v b1 b2 b3 b4
      exact p w' v b1 b2 b3 (by simpa using b4)
theorem g_tolds {B : Base} {C0 : Calls} {es : I} {i l j ic : Nat} {x y : Str} {scope : Scope} {p py p2 px pc : Pos} (ok : XOk Z X) (T : ToldF X.prog X.w X.K X.mg X.base Z.G Z.cx B) (hr : Room (j + 2) X.A) (bk : BlkOk X.N X.env.scope scope [(y, ic)])
    (hg : ∀ (s : Shared) (H : Hp) (C : Addr) (cl : List (Str × Addr)) (fp : List Addr), Gl (X.blk s H scope (compEnvC scope cl C X.env) fp) "_law_told") (hv : ∀ (C : Addr) (cl : List (Str × Addr)), L2.Loc (compEnvC scope cl C X.env).scope y) (hfn : ∀ (C : Addr) (cl : List (Str × Addr)), (scope.names.lookup y == some .cell) = true ∨ (compEnvC scope cl C X.env).scope.names.lookup y = some .local)
    (hN : X.N[ic]? = some y) (hd : (y == ("__debug__" : Str)) = false) (hcd : (y == ("__classdict__" : Str)) = false)
    (hi : X.N[i]? = some x) (hx : Vis X.env.scope x) (hdx : (x == ("__debug__" : Str)) = false) (hcx : (x == ("__classdict__" : Str)) = false) (ho : i ∈ Z.O) (hlf : ∀ Ls, Z.lf l Ls → LamsR Z X B C0 j es Ls ∧ Ls.length ≤ LIM) :
    PE X (.ListComp (.Call (.Name "_law_told" p) [.Name y py] [] pc) [⟨.Name y p2, .Name x px, [], 0⟩] scope pos) (tG Z fun ρ S => match getV ρ i with
      | some (.clo l' _) => if l' = l then (toldL C0 B es ρ S).bind fun ds S1 => .ok (.lst ds) S1 else .no
      | _ => .no) := by
  refine PE.imp (pe_lcW ok.calm ok.nd (pi_list (pe_var hi hx hdx hcx)) bk (fun s H C cl fp => pg_name ok.nd hN (hv C cl) (hfn C cl)) (seen_told (j := j) (C0 := C0) (B := B) ok T hr hg (fun C cl => (hv C cl).elim .inl fun z => .inr (.inl z)) hN hd hcd) fun _ => rfl) fun σ H Q h => ?_
  obtain ⟨ρ, w1, rfl, ok1, r1, q⟩ := h
  cases eg : getV ρ i with
  | none => simp only [eg] at q; exact q.elim
  | some d =>
    cases d <;> try (simp only [eg] at q; exact q.elim)
    rename_i l' cs
    simp only [eg] at q
    by_cases hl : l' = l
    · subst hl
      rw [if_pos rfl] at q
      obtain ⟨v, e1, h2, _⟩ := r1.val i _ eg
      obtain ⟨P0, vs, Ls, rfl, hF, hk, la⟩ := h2 ho
      obtain ⟨hR, hlen⟩ := hlf Ls hk
      refine ⟨.ref P0, e1, P0, rfl, ⟨vs, .inl (.inl (ok1.sub _ _ hF))⟩, fun L0 nD => ?_⟩
      have start : PostTs Z w1 (toldL C0 B es ρ w1.S) [] Q := by
        cases e : toldL C0 B es ρ w1.S with
        | no => rw [e] at q; exact q.elim
        | ex c us S' =>
          exfalso
          -- nothing is raised by telling
          have none_ex : ∀ (es : I) (ρ : Env) (S : Store) (c : Nat) (us : List D) (S' : Store), toldL C0 B es ρ S ≠ .ex c us S' := by
            intro es
            induction es with
            | nil => intro ρ S c us S' z; cases z
            | cons a as _ ih =>
              intro ρ S c us S' z
              unfold toldL at z
              cases e1 : toldR B (ev C0 B a ρ S) with
              | no => rw [e1] at z; cases z
              | ex c2 us2 S2 =>
                cases e2 : ev C0 B a ρ S with
                | no => rw [e2] at e1; cases e1
                | ok d S3 => rw [e2] at e1; cases e1
                | ex c3 us3 S3 =>
                  rw [e2] at e1
                  unfold toldR at e1
                  dsimp only at e1
                  cases e3 : B.ref c3 us3 <;> rw [e3] at e1 <;> cases e1
              | ok d S2 =>
                rw [e1, bind_ok] at z
                cases e2 : toldL C0 B as ρ S2 with
                | no => rw [e2] at z; cases z
                | ex c2 us2 S3 => exact ih ρ S2 c2 us2 S3 e2
                | ok ds S3 => rw [e2] at z; cases z
            | _ => intro ρ S c us S' z; cases z
          exact none_ex _ _ _ _ _ _ e
        | ok ds S' =>
          rw [e, bind_ok] at q
          exact fun w' v a1 a2 a3 a4 => q w' a1 a2 a3 v (by simpa using a4)
      obtain ⟨ok1', x1⟩ := ok_fresh ok1 (xs := []) nD
      have mD : L0 ∉ w1.M := not_M ok1 fun us z => by rw [nD] at z; cases z
      refine lc_list (xs := vs) (fun i H' => ∃ w acc us, w.H = H' ∧ WOk Z.G w ∧ EnvR Z w σ ρ ∧ Ext w1 w ∧ w.H L0 = some (.lst us) ∧ w.F L0 = none ∧ L0 ∉ w.M ∧ RepL Z.G w.F w.M acc us ∧ acc.length = i ∧ PostTs Z w1 (toldL C0 B (dropI i es) ρ w.S) acc Q)
        ⟨_, [], [], rfl, ok1', r1.ext x1, x1, upd_same, none_of_sub ok1.sub nD, mD, by simp only [RepL], rfl, start⟩ (fun i H' _ ⟨w, acc, us, e, wok, _, x, _⟩ => ?_) (fun i v H' hv ⟨w, acc, us, e, wok, r, x, hD, fD, nM, la2, hac, p⟩ => ?_) fun H' ⟨w, acc, us, e, wok, r, x, hD, fD, nM, la2, hac, p⟩ => ?_
      · subst e
        exact .inl (.inl (wok.sub _ _ (x.fs _ _ hF)))
      · subst e
        obtain ⟨L, f, hLi, rfl, laF⟩ := lamsAt_get (la.ext x) hv
        obtain ⟨a, ed, lr⟩ := lamsR_at hR hLi
        rw [ed] at p
        obtain ⟨d, S', et, p2⟩ := told_next p
        have hic := (List.getElem?_eq_some_iff.mp hN).1
        refine ⟨?_, ?_⟩
        · show ((σ.set ic none).set ic (some (V.ref f))).set ic none = σ.set ic none
          rw [List.set_set, List.set_set]
        · simp only [tYes, if_true]
          refine ⟨f, L, a, ρ, w, fun hl => ?_, rfl, wok, laF, lr, r, ?_⟩
          · have hl' : ((σ.set ic none).set ic (some (V.ref f))).length = X.N.length := hl
            have hl2 : σ.length = X.N.length := by simpa using hl'
            show ((σ.set ic none).set ic (some (V.ref f)))[ic]? = _
            exact List.getElem?_set_self (by rw [List.length_set, hl2]; exact hic)
          · unfold PostT
            rw [et]
            intro w' v x2 ok2 s2 rv
            have hD2 := x2.hs L0 _ hD nM (fun ps z => by cases z)
            have fD2 : w'.F L0 = none := (x2.fn L0 (by rw [hD]; simp)).trans fD
            have nM2 : L0 ∉ w'.M := fun z => by
              obtain ⟨more, hm, nn⟩ := x2.ms
              rw [hm] at z
              rcases List.mem_append.mp z with z | z
              · exact nM z
              · have := nn L0 z
                rw [hD] at this
                cases this
            have hlt := (List.getElem?_eq_some_iff.mp hLi).1
            refine ⟨us, hD2, by rw [← la2.length]; exact lim_lt (by omega), { w' with H := upd w'.H L0 (.lst (us ++ [v])) }, acc ++ [d], us ++ [v], rfl, ok2.put hD2 fD2 nM2, env_put r1 (r.ext x2) nD hD2, (x.trans x2).put nD hD2, upd_same, fD2, nM2, ?_, by simp [hac], ?_⟩
            · exact (la2.ext x2).append (by simp only [RepL]; exact ⟨v, [], rfl, rv, rfl⟩)
            · show PostTs Z w1 (toldL C0 B (dropI (i + 1) es) ρ w'.S) (acc ++ [d]) Q
              rw [s2]
              exact p2
      · subst e
        have hl2 : vs.length = Ls.length := lamsAt_len la
        rw [hl2, lamsR_end hR] at p
        have okS := wok.seal hD fD nM
        refine p { w with F := upd w.F L0 (.lst us) } (.ref L0) ⟨fun a o e => ?_, fun a ha => ?_, x.hs, x.hn, x.ms⟩ okS rfl (rep_lst.mpr ⟨L0, us, rfl, upd_same, ?_⟩)
        · show upd w.F L0 _ a = _
          rw [upd_ne (ne_of_none (ok1.sub a o e) nD)]
          exact x.fs a o e
        · show upd w.F L0 _ a = _
          rw [upd_ne fun z => ha (by rw [z]; exact nD)]
          exact x.fn a ha
        · rw [List.append_nil]
          exact la2.mono (fun a o e => by
            show upd w.F L0 _ a = _
            rw [upd_ne (ne_of_none e fD)]
            exact e) ⟨[], by simp⟩
    · rw [if_neg hl] at q
      exact q.elim
end
end RB

set_option Elab.async false
set_option linter.all false
set_option maxRecDepth 100000
set_option maxHeartbeats 4000000
set_option autoImplicit false
/-! The look at a text: is it this expression of the small language? And what follows. -/
namespace RB
open PySem PySem.Spec PyProof.Rows L2

/-- what is known of the def, or of the block within it, that is looked at -/
structure SC where
  N : List Str
  sc : Scope
  fn : Str → Bool
  O : List Nat
  sl : Nat
  mkl : Bool
  lams : List I
/-- what is known of the program's names -/
structure PC where
  fnx : Str → Option (Nat × Nat)
  glb : Str → Option Nat
  exc : Str → Option (Nat × Nat)
  told : Bool
  sm : Nat → Bool

def glN (c : SC) (x : Str) : Bool := c.sc.names.lookup x == some .globalImplicit
def visN (c : SC) (i : Nat) (x : Str) : Bool :=
  (c.N[i]? == some x) && (c.sc.names.lookup x == some .local || c.sc.names.lookup x == some .cell || c.sc.names.lookup x == some .free) && !(x == ("__debug__" : Str)) && !(x == ("__classdict__" : Str))
def locN (c : SC) (i : Nat) (x : Str) : Bool :=
  (c.N[i]? == some x) && (c.sc.names.lookup x == some .local || c.sc.names.lookup x == some .cell) && (c.fn x || c.sc.names.lookup x == some .local)
def litE : D → Expr → Bool
  | .non, .Constant .none _ _ => true
  | .bl b, .Constant (.bool b') _ _ => b == b'
  | .int i, .Constant (.int j) _ _ => i == j
  | .str s, .Constant (.str x) _ _ => x == strV s
  | _, _ => false
/-- names of what is built in -/
def biNm : Bi → Option Str
  | .len => some "len"
  | .all => some "all"
  | .sum => some "sum"
  | .max => some "max"
  | .str => some "str"
  | .int => some "int"
  | .tuple => some "tuple"
  | .list => some "list"
  | _ => none
def bi2Nm : Bi2 → Option Str
  | .min => some "min"
  | .max => some "max"
  | _ => none
def mtNm : Bi2 → Option Str
  | .join => some "join"
  | .index => some "index"
  | _ => none
def blt : List Str := ["len", "all", "sum", "max", "min", "str", "int", "tuple", "list", "range", "enumerate", "zip", "isinstance", "bool", "sorted", "set", "repr"]
def lenI : I → Nat
  | .cons _ as => lenI as + 1
  | _ => 0
/-! targets -/
mutual
def mT (c : SC) : Tg → Expr → Bool
  | .nm i, .Name x _ => locN c i x && !c.O.contains i
  | .tp ts, .Tuple es _ _ => mTs c ts es
  | _, _ => false
def mTs (c : SC) : Tg → List Expr → Bool
  | .nil, [] => true
  | .cons t ts, e :: es => noStar e && mT c t e && mTs c ts es
  | _, _ => false
end
mutual
def ownT : Tg → Expr → List (Str × Nat)
  | .nm i, .Name x _ => [(x, i)]
  | .tp ts, .Tuple es _ _ => ownTs ts es
  | _, _ => []
def ownTs : Tg → List Expr → List (Str × Nat)
  | .cons t ts, e :: es => ownT t e ++ ownTs ts es
  | _, _ => []
end
/-- within a comprehension's block -/
def blkS (c : SC) (scope : Scope) : SC := { c with sc := relS scope c.sc, fn := fun x => scope.names.lookup x == some .cell, mkl := false }
/-- within a lambda -/
def lamS (c : SC) (scope : Scope) : SC := { c with sc := scope, fn := fun _ => false, mkl := false, sl := 0 }
def lamLook (c : SC) (params : Arguments) (scope : Scope) : Bool := match lamPar params with
  | some qs => lamScB c.N (qs.map (·.1)) scope && scope.names.all fun y => !decide (y.2 = .free) || ((c.sc.names.lookup y.1 == some .cell || c.sc.names.lookup y.1 == some .free) && c.fn y.1)
  | none => false

mutual
def mE (P : PC) (c : SC) : I → Expr → Bool
  | .cst d, e => litE d e
  | .var i, .Name x _ => visN c i x && !c.O.contains i
  | .glb i, .Name x _ => P.glb x == some i && glN c x && !(x == ("__debug__" : Str))
  | .bin o a b, .BinOp e op f _ => op == opOf o && mE P c a e && mE P c b f
  | .neg a, .UnaryOp .USub e _ => mE P c a e
  | .not a, .UnaryOp .Not e _ => mE P c a e
  | .cmp o a b, .Compare e [op] [f] _ => op == copOf o && !behindInMarks op f && mE P c a e && mE P c b f
  | .chn o p a b d, .Compare e [op, oq] [f, g] _ => op == copOf o && oq == copOf p && !lastMarks [op, oq] [f, g] && mE P c a e && mE P c b f && mE P c d g
  | .and a b, .BoolOp .And (e :: f :: r) pos => mE P c a e && mE P c b (.BoolOp .And (f :: r) pos)
  | .or a b, .BoolOp .Or (e :: f :: r) pos => mE P c a e && mE P c b (.BoolOp .Or (f :: r) pos)
  | .one a, .BoolOp _ [e] _ => mE P c a e
  | .ife d a b, .IfExp t e f _ => mE P c d t && mE P c a e && mE P c b f
  | .tup as, .Tuple es _ _ => mEs P c as es && decide (lenI as ≤ LIM)
  | .lst as, .List es _ => mEs P c as es && decide (lenI as ≤ LIM)
  | .idx a i, .Subscript e s _ => plainIxB s && mB P c a e && mE P c i s
  | .slc a lo hi, .Subscript e (.Slice l h none _) _ => mB P c a e && mP P c lo l && mP P c hi h
  | .call f as, .Call (.Name x _) (e :: es) [] _ => (!P.sm f || c.mkl) && P.fnx x == some (f, lenI as) && glN c x && !(x == ("__debug__" : Str)) && (e :: es).all noStar && mEs P c as (e :: es)
  | .bi b a, .Call (.Name x _) [e] [] _ => biNm b == some x && glN c x && noStar e && mE P c a e
  | .srt a, .Call (.Name x _) [.Call (.Name y _) [e] [] _] [] _ => x == ("sorted" : Str) && y == ("set" : Str) && glN c x && glN c y && noStar e && mE P c a e
  | .bi2 b a d, .Call (.Name x _) [e, f] [] _ => bi2Nm b == some x && glN c x && noStar e && noStar f && mE P c a e && mE P c d f
  | .mth b a d, .Call (.Attribute o x apos) [e] [] pos => mtNm b == some x && baseB o && apos.endLine == pos.line && noStar e && mE P c a o && mE P c d e
  | .isi a ts, .Call (.Name x _) [e, .Name y _] [] _ => x == ("isinstance" : Str) && glN c x && noStar e && glN c y && (match ts with | [t] => y == Str.ofString (tyStr t) | _ => false) && mE P c a e
  | .isi a ts, .Call (.Name x _) [e, .Tuple es _ _] [] _ => x == ("isinstance" : Str) && glN c x && noStar e && tyNames ts es && (ts.all fun t => glN c (Str.ofString (tyStr t))) && decide (ts.length ≤ LIM) && mE P c a e
  | .told a, .Call (.Name x _) [.Lambda params body scope _] [] _ => c.mkl && P.told && x == ("_law_told" : Str) && glN c x && lamLook c params scope && mE P (lamS c scope) a body
  | .tolds i l, .ListComp (.Call (.Name x _) [.Name y _] [] _) [⟨.Name y2 _, .Name z _, [], k⟩] scope _ => c.mkl && P.told && k == 0 && x == ("_law_told" : Str) && y2 == y && visN c i z && c.O.contains i && (c.lams[l]?).isSome &&
      (match c.N.findIdx? (· == y) with
        | some ic => blkC c.N c.sc scope [(y, ic)] && glN (blkS c scope) x && locN (blkS c scope) ic y && !(y == ("__debug__" : Str)) && !(y == ("__classdict__" : Str))
        | none => false)
  | .cmp0 e tg it, .ListComp elt [⟨t, iter, [], k⟩] scope _ => k == 0 && noSet iter && blkC c.N c.sc scope (ownT tg t) && mT (blkS c scope) tg t && mI P c it t iter && mE P (blkS c scope) e elt
  | .cmp1 e tg it d, .ListComp elt [⟨t, iter, [g], k⟩] scope _ => k == 0 && noSet iter && blkC c.N c.sc scope (ownT tg t) && mT (blkS c scope) tg t && mI P c it t iter && mE P (blkS c scope) d g && mE P (blkS c scope) e elt
  | _, _ => false
/-- also a list of the def's own -/
def mB (P : PC) (c : SC) : I → Expr → Bool
  | .own i, .Name x _ => visN c i x
  | .var i, .Name x _ => visN c i x && !c.O.contains i
  | .glb i, .Name x _ => P.glb x == some i && glN c x && !(x == ("__debug__" : Str))
  | .cst d, e => litE d e
  | .idx a i, .Subscript e s _ => plainIxB s && mB P c a e && mE P c i s
  | .lst as, .List es _ => mEs P c as es && decide (lenI as ≤ LIM)
  | .slc a lo hi, .Subscript e (.Slice l h none _) _ => mB P c a e && mP P c lo l && mP P c hi h
  | .call f as, .Call (.Name x _) (e :: es) [] _ => (!P.sm f || c.mkl) && P.fnx x == some (f, lenI as) && glN c x && !(x == ("__debug__" : Str)) && (e :: es).all noStar && mEs P c as (e :: es)
  | _, _ => false
def mEs (P : PC) (c : SC) : I → List Expr → Bool
  | .nil, [] => true
  | .cons a as, e :: es => noStar e && mE P c a e && mEs P c as es
  | _, _ => false
def mP (P : PC) (c : SC) : I → Option Expr → Bool
  | .nil, none => true
  | .prt a, some e => mE P c a e
  | _, _ => false
def mI (P : PC) (c : SC) : I → Expr → Expr → Bool
  | .seqL a, _, e => mE P c a e
  | .seqT a, _, e => mE P c a e
  | .seqS a, _, e => mE P c a e
  | .rng1 a, _, .Call (.Name x _) [e] [] _ => x == ("range" : Str) && glN c x && noStar e && mE P c a e
  | .rng2 a b, _, .Call (.Name x _) [e, f] [] _ => x == ("range" : Str) && glN c x && noStar e && noStar f && mE P c a e && mE P c b f
  | .zip a b, .Tuple _ _ _, .Call (.Name x _) [e, f] [] _ => x == ("zip" : Str) && glN c x && noStar e && noStar f && mE P c a e && mE P c b f
  | .enumS a, .Tuple _ _ _, .Call (.Name x _) [e] [] _ => x == ("enumerate" : Str) && glN c x && noStar e && mE P c a e
  | _, _, _ => false
end
/-- a list of lambdas -/
def mLams (P : PC) (c : SC) : I → List Expr → Bool
  | .nil, [] => true
  | .cons a as, .Lambda params body scope _ :: es => lamLook c params scope && mE P (lamS c scope) a body && mLams P c as es
  | _, _ => false
/-- what such a list's functions are -/
def LamsM (P : PC) (c : SC) (X : Cx) : I → List LF → Prop
  | .nil, Ls => Ls = []
  | .cons a as, Ls => ∃ params body scope r, Ls = lfOf X params body scope :: r ∧ lamLook c params scope = true ∧ mE P (lamS c scope) a body = true ∧ LamsM P c X as r
  | _, _ => False
end RB

set_option Elab.async false
set_option linter.all false
set_option maxRecDepth 100000
set_option maxHeartbeats 4000000
set_option autoImplicit false
/-! What follows from such a look. -/
namespace RB
open PySem PySem.Spec PyProof.Rows L2

/-! ### the last forms -/
section
variable {Z : Fm} {X : Cx} {a b t : Expr} {ga gb gc : Env → Store → R D} {pos : Pos}
theorem g_one {op : BoolOp} (ha : PE X a (tG Z ga)) : PE X (.BoolOp op [a] pos) (tG Z ga) := pe_one ha
theorem g_oneT {op : BoolOp} (ha : PT X a (tGT Z ga)) : PT X (.BoolOp op [a] pos) (tGT Z ga) := by
  cases op
  · exact (pw_and1 ha).pt
  · exact (pw_or1 ha).pt
theorem pw_of {op : BoolOp} {es : List Expr} {tt : TT} (h : PT X (.BoolOp op es pos) tt) : PW X (.BoolOp op es pos) tt := ⟨fun wh pins s σ H Q I hq => h.run pins s σ H Q I hq⟩
theorem g_ifeT (hc : PT X t (tGT Z gc)) (ha : PT X a (tGT Z ga)) (hb : PT X b (tGT Z gb)) :
    PT X (.IfExp t a b pos) (tGT Z fun ρ S => (gc ρ S).bind fun x S1 => (toBl x S1).bind fun t S2 => if t then ga ρ S2 else gb ρ S2) := by
  refine ⟨fun pins s σ H Q I h => ?_⟩
  show wpAny _ _ (do if ← isTrue t X.env (eval t X.env) then isTrue a X.env (eval a X.env) else isTrue b X.env (eval b X.env)) _ _ s
  refine wpAny_bind (thn (hc.run pins s σ H _ I (run1T h)) fun d s1 ⟨H1, I1, ρ, w, e, ok, r, p⟩ => ?_)
  cases d with
  | true => exact ha.run pins s1 σ H1 Q I1 ⟨ρ, w, e, ok, r, p⟩
  | false => exact hb.run pins s1 σ H1 Q I1 ⟨ρ, w, e, ok, r, p⟩
/-- a method's receiver, then its argument -/
theorem runM {m : Bi2} {σ : Sl} {H : Hp} {Q : VK} (h : tG Z (fun ρ S => (ga ρ S).bind fun x S1 => if recvOk m x then (gb ρ S1).bind fun y S2 => .of (bi2 m x y) S2 else .no) σ H Q) :
    tG Z ga σ H fun v H1 => ∃ x w1, recvOk m x = true ∧ w1.H = H1 ∧ WOk Z.G w1 ∧ RepV Z.G w1.F w1.M x v ∧ tG Z gb σ H1 fun u H2 => ∃ y d w, w.H = H2 ∧ WOk Z.G w ∧ RepV Z.G w.F w.M x v ∧ RepV Z.G w.F w.M y u ∧ bi2 m x y = some d ∧ ∀ v w', Ext w w' → WOk Z.G w' → w'.S = w.S → RepV Z.G w'.F w'.M d v → Q v w'.H := by
  refine (run1 (k := fun ρ x S1 => if recvOk m x then (gb ρ S1).bind fun y S2 => .of (bi2 m x y) S2 else .no) h).imp fun v H1 ⟨ρ, x, w, e, ok, r, rx, p⟩ => ?_
  split at p
  · rename_i hr
    refine ⟨x, w, hr, e, ok, rx, ρ, w, e, ok, r, p.bind.imp fun y w2 e2 ok2 p2 u ru => ?_⟩
    obtain ⟨d, e3, k⟩ := p2.of ok2
    exact ⟨y, d, w2, rfl, ok2, rx.ext e2, ru, e3, fun v w' a1 a2 a3 a4 => k w' a1 a2 a3 v a4⟩
  · exact p.elim
theorem g_join (ok : XOk Z X) {apos : Pos} (ha : PE X a (tG Z ga)) (hb : PE X b (tG Z gb)) (hs : baseB a = true) (hline : (apos.endLine == pos.line) = true) (hst : noStar b = true) :
    PE X (.Call (.Attribute a "join" apos) [b] [] pos) (tG Z fun ρ S => (ga ρ S).bind fun x S1 => if recvOk .join x then (gb ρ S1).bind fun y S2 => .of (bi2 .join x y) S2 else .no) := by
  refine PE.imp (pe_m1 PySem.F.slot_str_join PySem.F.type_str_join (join_ok (G := Z.G) ok.hK) ha hb (star_ok hst [] X.env) (base_ok hs _ _) hline) fun σ H Q h => ?_
  refine (runM h).imp fun v H1 ⟨x, w1, hr, e1, ok1, rx, h2⟩ => ?_
  cases x <;> try (cases hr; done)
  rw [rep_str] at rx
  refine ⟨⟨_, rx⟩, h2.imp fun u H2 ⟨y, d, w, e, okw, r1, r2, ed, k⟩ => ⟨u, _, y, d, w, rfl, e, okw, r1, r2, ed, k⟩⟩
theorem g_index (ok : XOk Z X) {apos : Pos} (ha : PE X a (tG Z ga)) (hb : PE X b (tG Z gb)) (hs : baseB a = true) (hline : (apos.endLine == pos.line) = true) (hst : noStar b = true) :
    PE X (.Call (.Attribute a "index" apos) [b] [] pos) (tG Z fun ρ S => (ga ρ S).bind fun x S1 => if recvOk .index x then (gb ρ S1).bind fun y S2 => .of (bi2 .index x y) S2 else .no) := by
  refine PE.imp (pe_bm PySem.F.plainAttrs_list PySem.F.slot_list_index PySem.F.type_list_index (index_ok (G := Z.G) ok.hK) ha (pa_cons hb pa_nil (star_ok hst [] X.env)) (base_ok hs _ _) (by rw [star_ok hst []]; rfl) hline (star_ok hst [] X.env) rfl) fun σ H Q h => ?_
  refine (runM h).imp fun v H1 ⟨x, w1, hr, e1, ok1, rx, h2⟩ => ?_
  cases x <;> try (cases hr; done)
  obtain ⟨p, vs, rfl, q, l⟩ := rep_lst.mp rx
  refine ⟨.inl ⟨rfl, vs, .of (by rw [← e1]; exact ok1.sub _ _ q)⟩, h2.imp fun u H2 ⟨y, d, w, e, okw, r1, r2, ed, k⟩ => ⟨u, _, y, d, w, rfl, e, okw, r1, r2, ed, k⟩⟩
end

/-! ### what a look presumes -/
structure XF (P : PC) (B : Base) (C : Calls) (j : Nat) (c : SC) (Z : Fm) (X : Cx) : Prop where
  ok : XOk Z X
  N : X.N = c.N
  sc : X.env.scope = c.sc
  fn : X.fn = c.fn
  O : Z.O = c.O
  kind : c.sc.kind = .function
  room : Room (j + c.sl) X.A
  tk : Takes X Z.Wx
  bt : ∀ x ∈ blt, X.mg x = none
  glb : ∀ x i, P.glb x = some i → ∃ d v u, X.mg x = some u ∧ L2.RelV v u ∧ B.glb i = some d ∧ ∀ F M, RepV Z.G F M d v
  fns : ∀ x f n, P.fnx x = some (f, n) → P.sm f = false → ∃ a fd ps, X.mg x = some (.ref a) ∧ PySem.W.keepIn X.K (.ref a) = true ∧ Binds X.K fd ps [] ∧ FnOk X.prog X.w X.K X.mg X.base (L2.CX X.prog X.w) j a fd ps (spG Z.G Z.cx n (C.fn f))
  sam : c.mkl = true → ∀ x f n, P.fnx x = some (f, n) → P.sm f = true → ∃ a fd ps, X.mg x = some (.ref a) ∧ PySem.W.keepIn X.K (.ref a) = true ∧ Binds X.K fd ps [] ∧ FnAt X.prog X.w X.K X.mg X.base (L2.CX X.prog X.w) X.A j a fd ps (spG Z.G Z.cx n (C.fn f))
  exs : ∀ x k n, P.exc x = some (k, n) → ∃ (Ce fI : Addr) (fd : FuncData) (qs ps : List Str), ps.length = n ∧ n ≤ 100 ∧ OexC X.K Ce ∧ PySem.W.findIn X.K (.ref Ce) "__init__" = some (some (.ref fI)) ∧ PySem.W.typeIn X.K (.ref fI) = some (.type "function") ∧
    FnOk X.prog X.w X.K X.mg X.base (L2.CX X.prog X.w) 1 fI fd qs (spInit Ce ps) ∧ Binds X.K fd qs [] ∧ X.mg x = some (.ref Ce) ∧
    ∀ (w : Wd) (d : Addr) (vs : List D) (us : List V), w.F d = some (.xd (ps.zip us).reverse) → RepL Z.G w.F w.M vs us → vs.length = ps.length → Z.cx k vs w (.ref Ce) (some d)
  tld : P.told = true → ToldF X.prog X.w X.K X.mg X.base Z.G Z.cx B
  mkf : c.mkl = true → MkF Z X ∧ c.sl = 2
  tl : c.mkl = true → ∀ l es, c.lams[l]? = some es → C.tl l = fun ρ S => toldL ⟨C.fn, fun _ _ _ => .no⟩ B es ρ S
  lfi : c.mkl = true → ∀ l es Ls, c.lams[l]? = some es → LamsM P c X es Ls → Z.lf l Ls
  lfs : c.mkl = true → ∀ l es Ls, c.lams[l]? = some es → Z.lf l Ls → LamsR Z X B ⟨C.fn, fun _ _ _ => .no⟩ j es Ls ∧ Ls.length ≤ LIM
section
variable {P : PC} {B : Base} {C : Calls} {j : Nat} {c : SC} {Z : Fm} {X : Cx}
theorem XF.gl (F : XF P B C j c Z X) {x : Str} (h : glN c x = true) : Gl X x := by
  show X.env.scope.names.lookup x = _
  rw [F.sc]
  simpa [glN] using h
theorem XF.vis (F : XF P B C j c Z X) {i : Nat} {x : Str} (h : visN c i x = true) : X.N[i]? = some x ∧ Vis X.env.scope x ∧ (x == ("__debug__" : Str)) = false ∧ (x == ("__classdict__" : Str)) = false := by
  unfold visN at h
  simp only [Bool.and_eq_true, Bool.or_eq_true, beq_iff_eq, Bool.not_eq_true'] at h
  obtain ⟨⟨⟨h1, h2⟩, h3⟩, h4⟩ := h
  refine ⟨by rw [F.N]; exact h1, ?_, h3, h4⟩
  unfold Vis
  rw [F.sc]
  rcases h2 with (h2 | h2) | h2
  · exact .inl h2
  · exact .inr (.inl h2)
  · exact .inr (.inr h2)
theorem XF.loc (F : XF P B C j c Z X) {i : Nat} {x : Str} (h : locN c i x = true) : X.N[i]? = some x ∧ L2.Loc X.env.scope x ∧ (X.fn x = true ∨ X.env.scope.names.lookup x = some .local) := by
  unfold locN at h
  simp only [Bool.and_eq_true, Bool.or_eq_true, beq_iff_eq] at h
  obtain ⟨⟨h1, h2⟩, h3⟩ := h
  refine ⟨by rw [F.N]; exact h1, ?_, ?_⟩
  · unfold L2.Loc
    rw [F.sc]
    exact h2
  · rw [F.sc, F.fn]
    exact h3
theorem XF.blk (F : XF P B C j c Z X) {scope : Scope} (hk : scope.kind = .function) (s : Shared) (H : Hp) (Cc : Addr) (cl : List (Str × Addr)) (fp : List Addr) : XF P B C j (blkS c scope) Z.quiet (X.blk s H scope (compEnvC scope cl Cc X.env) fp) where
  ok := F.ok.blk s H scope _ fp
  N := F.N
  sc := by
    show relabel scope X.env = relS scope c.sc
    rw [← F.sc]
    rfl
  fn := rfl
  O := F.O
  kind := hk
  room := F.room
  tk := takes_blk
  bt := F.bt
  glb := F.glb
  fns := F.fns
  sam := fun z => Bool.noConfusion (show false = true from z)
  exs := F.exs
  tld := F.tld
  mkf := fun z => Bool.noConfusion (show false = true from z)
  tl := fun z => Bool.noConfusion (show false = true from z)
  lfi := fun z => Bool.noConfusion (show false = true from z)
  lfs := fun z => Bool.noConfusion (show false = true from z)
theorem lamLook_ok (F : XF P B C j c Z X) {params : Arguments} {scope : Scope} (h : lamLook c params scope = true) : LamOkX X params scope := by
  unfold lamLook at h
  cases e : lamPar params with
  | none => rw [e] at h; cases h
  | some qs =>
    rw [e] at h
    simp only [Bool.and_eq_true, Bool.or_eq_true, Bool.not_eq_true', decide_eq_false_iff_not, List.all_eq_true, beq_iff_eq] at h
    obtain ⟨h1, h2⟩ := h
    refine ⟨⟨qs, e, by rw [F.N]; exact lamSc_ok h1⟩, fun y hy e => ?_, fun y hy e => ?_⟩
    · rw [F.sc]
      rcases h2 y hy with z | z
      · exact absurd e z
      · exact z.1
    · rw [F.fn]
      rcases h2 y hy with z | z
      · exact absurd e z
      · exact z.2
/-- the lambda's own frame -/
theorem XF.lam (F : XF P B C j c Z X) {C' : Calls} (hC : C'.fn = C.fn) {params : Arguments} {body : Expr} {scope : Scope} (h : lamLook c params scope = true) {cc f : Addr} {A : Around} {outer : List PySem.Env} {s : Shared} {H : Hp} {E : XK} (hr : Room j (A.deeper (envL (lfOf X params body scope) cc f s.heap.objs.size))) :
    XF P B C' j (lamS c scope) { Z with Wx := fun cls d _ H' => E cls d H' } (lcx X.prog X.w X.K X.mg X.base X.N (lfOf X params body scope) cc f A outer s H E) where
  ok := ⟨F.ok.hK, rfl, by have := hr.un; show (A.deeper _).units + 65 < cLine; omega, F.ok.nd⟩
  N := F.N
  sc := rfl
  fn := rfl
  O := F.O
  kind := by
    obtain ⟨qs, _, S⟩ := (lamLook_ok F h).par
    exact S.kind
  room := hr
  tk := L2.takes_of rfl rfl rfl rfl
  bt := F.bt
  glb := F.glb
  fns := fun x f n hx hs => by
    rw [hC]
    exact F.fns x f n hx hs
  sam := fun z => Bool.noConfusion (show false = true from z)
  exs := F.exs
  tld := F.tld
  mkf := fun z => Bool.noConfusion (show false = true from z)
  tl := fun z => Bool.noConfusion (show false = true from z)
  lfi := fun z => Bool.noConfusion (show false = true from z)
  lfs := fun z => Bool.noConfusion (show false = true from z)
end
theorem evs_len {C : Calls} {B : Base} : ∀ (as : I) {ρ : Env} {S : Store} {ds : List D} {S' : Store}, evs C B as ρ S = .ok ds S' → ds.length = lenI as := by
  intro as
  induction as with
  | nil =>
    intro ρ S ds S' h
    cases h
    rfl
  | cons a as _ ih =>
    intro ρ S ds S' h
    simp only [evs] at h
    cases e1 : ev C B a ρ S with
    | no => rw [e1] at h; cases h
    | ex _ _ _ => rw [e1] at h; cases h
    | ok d S1 =>
      rw [e1, bind_ok] at h
      cases e2 : evs C B as ρ S1 with
      | no => rw [e2] at h; cases h
      | ex _ _ _ => rw [e2] at h; cases h
      | ok r S2 =>
        rw [e2, bind_ok] at h
        cases h
        rw [List.length_cons, ih e2]
        rfl
  | _ => intro ρ S ds S' h; cases h

theorem lit_ok {Z : Fm} {X : Cx} {d : D} {e : Expr} (h : litE d e = true) : ∃ v, PE X e (tC v) ∧ (∀ G F M, RepV G F M d v) ∧ ∀ whole, isTrue e X.env whole = (do let v ← whole; standAt e.pos; holding [v] (truthy v)) := by
  unfold litE at h
  split at h
  · exact ⟨.non, pe_non, fun _ _ _ => rep_non.mpr rfl, fun _ => rfl⟩
  · have h := beq_iff_eq.mp h
    subst h
    exact ⟨_, pe_bl, fun _ _ _ => rep_bl.mpr rfl, fun _ => rfl⟩
  · have h := beq_iff_eq.mp h
    subst h
    exact ⟨_, pe_int, fun _ _ _ => rep_int.mpr rfl, fun _ => rfl⟩
  · have h := beq_iff_eq.mp h
    subst h
    exact ⟨_, pe_str, fun _ _ _ => rep_str.mpr rfl, fun _ => rfl⟩
  · cases h

/-! ### targets -/
section
variable {P : PC} {B : Base} {C : Calls} {j : Nat} {c : SC} {Z : Fm} {X : Cx}
mutual
theorem mT_ok (F : XF P B C j c Z X) : ∀ {t : Tg} {e : Expr}, mT c t e = true → PG X e (gT Z t)
  | .nm i, e, h => by
    cases e <;> try exact Bool.noConfusion (show false = true from h)
    rename_i x pos
    simp only [mT, Bool.and_eq_true, Bool.not_eq_true', List.contains_eq_mem, decide_eq_false_iff_not] at h
    obtain ⟨h1, h2⟩ := h
    obtain ⟨a1, a2, a3⟩ := F.loc h1
    exact t_name F.ok a1 a2 a3 (by rw [F.O]; exact h2)
  | .tp ts, e, h => by
    cases e <;> try exact Bool.noConfusion (show false = true from h)
    rename_i es k pos
    simp only [mT] at h
    obtain ⟨h1, h2, h3⟩ := mTs_ok F h
    exact t_tup F.ok h1 (by rw [asg_len, h2]) (asg_none h3 _)
  | .nil, e, h => by cases e <;> exact Bool.noConfusion (show false = true from h)
  | .cons _ _, e, h => by cases e <;> exact Bool.noConfusion (show false = true from h)
theorem mTs_ok (F : XF P B C j c Z X) : ∀ {t : Tg} {es : List Expr}, mTs c t es = true → PGs X es (gTs Z t) ∧ es.length = lenT t ∧ es.all noStar = true
  | .nil, [], h => ⟨t_nil, rfl, rfl⟩
  | .nil, _ :: _, h => Bool.noConfusion (show false = true from h)
  | .cons t ts, [], h => Bool.noConfusion (show false = true from h)
  | .cons t ts, e :: es, h => by
    simp only [mTs, Bool.and_eq_true] at h
    obtain ⟨⟨h1, h2⟩, h3⟩ := h
    obtain ⟨a1, a2, a3⟩ := mTs_ok F h3
    refine ⟨t_cons (mT_ok F h2) a1 (by rw [asg_ok h1]; rfl), ?_, ?_⟩
    · rw [List.length_cons, a2]
      rfl
    · simp only [List.all_cons, h1, a3, Bool.and_self]
  | .nm _, [], h => Bool.noConfusion (show false = true from h)
  | .nm _, _ :: _, h => Bool.noConfusion (show false = true from h)
  | .tp _, [], h => Bool.noConfusion (show false = true from h)
  | .tp _, _ :: _, h => Bool.noConfusion (show false = true from h)
end
mutual
theorem ownT_ok : ∀ {t : Tg} {e : Expr}, mT c t e = true → (ownT t e).map (·.2) = slotsT t
  | .nm i, e, h => by
    cases e <;> try exact Bool.noConfusion (show false = true from h)
    rfl
  | .tp ts, e, h => by
    cases e <;> try exact Bool.noConfusion (show false = true from h)
    exact ownTs_ok h
  | .nil, e, h => by cases e <;> exact Bool.noConfusion (show false = true from h)
  | .cons _ _, e, h => by cases e <;> exact Bool.noConfusion (show false = true from h)
theorem ownTs_ok : ∀ {t : Tg} {es : List Expr}, mTs c t es = true → (ownTs t es).map (·.2) = slotsT t
  | .nil, [], h => rfl
  | .nil, _ :: _, h => Bool.noConfusion (show false = true from h)
  | .cons t ts, [], h => Bool.noConfusion (show false = true from h)
  | .cons t ts, e :: es, h => by
    simp only [mTs, Bool.and_eq_true] at h
    obtain ⟨⟨h1, h2⟩, h3⟩ := h
    simp only [ownTs, slotsT, List.map_append, ownT_ok h2, ownTs_ok h3]
  | .nm _, [], h => Bool.noConfusion (show false = true from h)
  | .nm _, _ :: _, h => Bool.noConfusion (show false = true from h)
  | .tp _, [], h => Bool.noConfusion (show false = true from h)
  | .tp _, _ :: _, h => Bool.noConfusion (show false = true from h)
end
end
end RB

set_option Elab.async false
set_option linter.all false
set_option maxRecDepth 100000
set_option maxHeartbeats 4000000
set_option autoImplicit false
/-! The matcher is right: expressions. -/
namespace RB
open PySem PySem.Spec PyProof.Rows L2

structure Snd (P : PC) (B : Base) (C : Calls) (j : Nat) (i : I) : Prop where
  e : ∀ {c : SC} {Z : Fm} {X : Cx} {e : Expr}, XF P B C j c Z X → mE P c i e = true → PE X e (tG Z (ev C B i)) ∧ PT X e (tGT Z (ev C B i))
  b : ∀ {c : SC} {Z : Fm} {X : Cx} {e : Expr}, XF P B C j c Z X → mB P c i e = true → PE X e (tGB Z (ev C B i))
  s : ∀ {c : SC} {Z : Fm} {X : Cx} {es : List Expr}, XF P B C j c Z X → mEs P c i es = true → PA X es (tGA Z (evs C B i))
  p : ∀ {c : SC} {Z : Fm} {X : Cx} {o : Option Expr}, XF P B C j c Z X → mP P c i o = true → GP Z X o (evp C B i)
  w : ∀ {c : SC} {Z : Fm} {X : Cx} {t e : Expr}, XF P B C j c Z X → mI P c i t e = true → PI X t e (tI Z (evi C B i))

section
variable {P : PC} {B : Base} {C : Calls} {j : Nat}
theorem both {Z : Fm} {X : Cx} {e : Expr} {g : Env → Store → R D} (h : PE X e (tG Z g)) (he : ∀ whole, isTrue e X.env whole = (do let v ← whole; standAt e.pos; holding [v] (truthy v))) : PE X e (tG Z g) ∧ PT X e (tGT Z g) := ⟨h, g_plain h he⟩
theorem no_b {i : I} (h : ∀ c e, mB P c i e = false) {c : SC} {Z : Fm} {X : Cx} {e : Expr} (_ : XF P B C j c Z X) (k : mB P c i e = true) : PE X e (tGB Z (ev C B i)) := by
  rw [h] at k
  cases k
theorem no_e {i : I} (h : ∀ c e, mE P c i e = false) {c : SC} {Z : Fm} {X : Cx} {e : Expr} (_ : XF P B C j c Z X) (k : mE P c i e = true) : PE X e (tG Z (ev C B i)) ∧ PT X e (tGT Z (ev C B i)) := by
  rw [h] at k
  cases k
theorem no_s {i : I} (h : ∀ c e, mEs P c i e = false) {c : SC} {Z : Fm} {X : Cx} {es : List Expr} (_ : XF P B C j c Z X) (k : mEs P c i es = true) : PA X es (tGA Z (evs C B i)) := by
  rw [h] at k
  cases k
theorem no_p {i : I} (h : ∀ c e, mP P c i e = false) {c : SC} {Z : Fm} {X : Cx} {o : Option Expr} (_ : XF P B C j c Z X) (k : mP P c i o = true) : GP Z X o (evp C B i) := by
  rw [h] at k
  cases k
theorem no_w {i : I} (h : ∀ c t e, mI P c i t e = false) {c : SC} {Z : Fm} {X : Cx} {t e : Expr} (_ : XF P B C j c Z X) (k : mI P c i t e = true) : PI X t e (tI Z (evi C B i)) := by
  rw [h] at k
  cases k

theorem e_cst {d : D} {Z : Fm} {X : Cx} {e : Expr} (h : litE d e = true) : PE X e (tG Z (ev C B (.cst d))) ∧ PT X e (tGT Z (ev C B (.cst d))) := by
  obtain ⟨v, h1, h2, h3⟩ := lit_ok (Z := Z) (X := X) h
  have q : PE X e (tG Z (ev C B (.cst d))) := PE.imp h1 fun σ H Q h => by
    obtain ⟨ρ, w, rfl, wok, r, p⟩ := h
    exact p w (Ext.refl w) wok rfl v (h2 _ _ _)
  exact ⟨q, g_plain q h3⟩
theorem snd_cst (d : D) : Snd P B C j (.cst d) where
  e := fun _ h => e_cst (by simpa only [mE] using h)
  b := fun _ h => g_toB (e_cst (by simpa only [mB] using h)).1
  s := no_s fun _ _ => rfl
  p := no_p fun _ _ => rfl
  w := no_w fun _ _ _ => rfl
theorem e_var {i : Nat} {c : SC} {Z : Fm} {X : Cx} {e : Expr} (F : XF P B C j c Z X) (h : mE P c (.var i) e = true) : PE X e (tG Z (ev C B (.var i))) ∧ PT X e (tGT Z (ev C B (.var i))) := by
  cases e <;> try exact Bool.noConfusion (show false = true from h)
  rename_i x pos
  simp only [mE, Bool.and_eq_true, Bool.not_eq_true', List.contains_eq_mem, decide_eq_false_iff_not] at h
  obtain ⟨h1, h2⟩ := h
  obtain ⟨a1, a2, a3, a4⟩ := F.vis h1
  have q : PE X (.Name x pos) (tG Z (ev C B (.var i))) := g_var F.ok (by rw [F.O]; exact h2) a1 a2 a3 a4
  exact ⟨q, g_plain q fun _ => rfl⟩
theorem snd_var (i : Nat) : Snd P B C j (.var i) where
  e := e_var
  b := fun {c Z X e} F h => g_toB (e_var F (e := e) (by cases e <;> first | exact h | exact Bool.noConfusion (show false = true from h))).1
  s := no_s fun _ _ => rfl
  p := no_p fun _ _ => rfl
  w := no_w fun _ _ _ => rfl
theorem snd_own (i : Nat) : Snd P B C j (.own i) where
  e := no_e fun _ e => by cases e <;> rfl
  b := fun {c Z X e} F h => by
    cases e <;> try exact Bool.noConfusion (show false = true from h)
    rename_i x pos
    obtain ⟨a1, a2, a3, a4⟩ := F.vis (show visN c i x = true from h)
    exact g_own a1 a2 a3 a4
  s := no_s fun _ _ => rfl
  p := no_p fun _ _ => rfl
  w := no_w fun _ _ _ => rfl
theorem e_glb {i : Nat} {c : SC} {Z : Fm} {X : Cx} {e : Expr} (F : XF P B C j c Z X) (h : mE P c (.glb i) e = true) : PE X e (tG Z (ev C B (.glb i))) ∧ PT X e (tGT Z (ev C B (.glb i))) := by
  cases e <;> try exact Bool.noConfusion (show false = true from h)
  rename_i x pos
  simp only [mE, Bool.and_eq_true, Bool.not_eq_true', beq_iff_eq] at h
  obtain ⟨⟨h1, h2⟩, h3⟩ := h
  obtain ⟨d, v, u, e1, e2, e3, e4⟩ := F.glb x i h1
  have q : PE X (.Name x pos) (tG Z (ev C B (.glb i))) := g_glb (pe_glob (F.gl h2) e1 e2 h3) e3 e4
  exact ⟨q, g_plain q fun _ => rfl⟩
theorem snd_glb (i : Nat) : Snd P B C j (.glb i) where
  e := e_glb
  b := fun {c Z X e} F h => g_toB (e_glb F (e := e) (by cases e <;> first | exact h | exact Bool.noConfusion (show false = true from h))).1
  s := no_s fun _ _ => rfl
  p := no_p fun _ _ => rfl
  w := no_w fun _ _ _ => rfl
section
variable {a b d : I}
theorem snd_bin (o : BOp) (ha : Snd P B C j a) (hb : Snd P B C j b) : Snd P B C j (.bin o a b) where
  e := fun {c Z X e} F h => by
    cases e <;> try exact Bool.noConfusion (show false = true from h)
    rename_i e op f pos
    simp only [mE, Bool.and_eq_true, beq_iff_eq] at h
    obtain ⟨⟨rfl, h2⟩, h3⟩ := h
    refine both (g_bin F.ok (ha.e F h2).1 (hb.e F h3).1) fun _ => rfl
  b := no_b fun _ e => by cases e <;> rfl
  s := no_s fun _ _ => rfl
  p := no_p fun _ _ => rfl
  w := no_w fun _ _ _ => rfl
theorem snd_neg (ha : Snd P B C j a) : Snd P B C j (.neg a) where
  e := fun {c Z X e} F h => by
    cases e <;> try exact Bool.noConfusion (show false = true from h)
    rename_i op e pos
    cases op <;> try exact Bool.noConfusion (show false = true from h)
    refine both (g_neg (ha.e F (show mE P c a e = true from h)).1) fun _ => rfl
  b := no_b fun _ e => by cases e <;> rfl
  s := no_s fun _ _ => rfl
  p := no_p fun _ _ => rfl
  w := no_w fun _ _ _ => rfl
theorem snd_not (ha : Snd P B C j a) : Snd P B C j (.not a) where
  e := fun {c Z X e} F h => by
    cases e <;> try exact Bool.noConfusion (show false = true from h)
    rename_i op e pos
    cases op <;> try exact Bool.noConfusion (show false = true from h)
    have k := ha.e F (show mE P c a e = true from h)
    exact ⟨g_notV k.1, g_not k.2⟩
  b := no_b fun _ e => by cases e <;> rfl
  s := no_s fun _ _ => rfl
  p := no_p fun _ _ => rfl
  w := no_w fun _ _ _ => rfl
theorem snd_cmp (o : COp) (ha : Snd P B C j a) (hb : Snd P B C j b) : Snd P B C j (.cmp o a b) where
  e := fun {c Z X e} F h => by
    cases e <;> try exact Bool.noConfusion (show false = true from h)
    rename_i e ops fs pos
    match ops, fs, h with
    | [op], [f], h =>
      simp only [mE, Bool.and_eq_true, beq_iff_eq, Bool.not_eq_true'] at h
      obtain ⟨⟨⟨rfl, h1⟩, h2⟩, h3⟩ := h
      exact ⟨g_cmp F.ok (ha.e F h2).1 (hb.e F h3).1 h1, g_cmpT F.ok (ha.e F h2).1 (hb.e F h3).1 h1⟩
    | [], _, h => exact Bool.noConfusion (show false = true from h)
    | [_], [], h => exact Bool.noConfusion (show false = true from h)
    | [_], _ :: _ :: _, h => exact Bool.noConfusion (show false = true from h)
    | _ :: _ :: _, _, h => exact Bool.noConfusion (show false = true from h)
  b := no_b fun _ e => by cases e <;> rfl
  s := no_s fun _ _ => rfl
  p := no_p fun _ _ => rfl
  w := no_w fun _ _ _ => rfl
theorem snd_chn (o p : COp) (ha : Snd P B C j a) (hb : Snd P B C j b) (hd : Snd P B C j d) : Snd P B C j (.chn o p a b d) where
  e := fun {c Z X e} F h => by
    cases e <;> try exact Bool.noConfusion (show false = true from h)
    rename_i e ops fs pos
    match ops, fs, h with
    | [op, oq], [f, g], h =>
      simp only [mE, Bool.and_eq_true, beq_iff_eq, Bool.not_eq_true'] at h
      obtain ⟨⟨⟨⟨⟨rfl, rfl⟩, h1⟩, h2⟩, h3⟩, h4⟩ := h
      exact ⟨g_chn F.ok (ha.e F h2).1 (hb.e F h3).1 (hd.e F h4).1 h1, g_chnT F.ok (ha.e F h2).1 (hb.e F h3).1 (hd.e F h4).1 h1⟩
    | [], _, h => exact Bool.noConfusion (show false = true from h)
    | [_], _, h => exact Bool.noConfusion (show false = true from h)
    | [_, _], [], h => exact Bool.noConfusion (show false = true from h)
    | [_, _], [_], h => exact Bool.noConfusion (show false = true from h)
    | [_, _], _ :: _ :: _ :: _, h => exact Bool.noConfusion (show false = true from h)
    | _ :: _ :: _ :: _, _, h => exact Bool.noConfusion (show false = true from h)
  b := no_b fun _ e => by cases e <;> rfl
  s := no_s fun _ _ => rfl
  p := no_p fun _ _ => rfl
  w := no_w fun _ _ _ => rfl
theorem snd_and (ha : Snd P B C j a) (hb : Snd P B C j b) : Snd P B C j (.and a b) where
  e := fun {c Z X e} F h => by
    cases e <;> try exact Bool.noConfusion (show false = true from h)
    rename_i op es pos
    cases op <;> try exact Bool.noConfusion (show false = true from h)
    match es, h with
    | e :: f :: r, h =>
      simp only [mE, Bool.and_eq_true] at h
      have k := hb.e F h.2
      exact ⟨g_andV (ha.e F h.1).1 k.1, (g_and (ha.e F h.1).2 (pw_of k.2)).pt⟩
    | [], h => exact Bool.noConfusion (show false = true from h)
    | [_], h => exact Bool.noConfusion (show false = true from h)
  b := no_b fun _ e => by cases e <;> rfl
  s := no_s fun _ _ => rfl
  p := no_p fun _ _ => rfl
  w := no_w fun _ _ _ => rfl
theorem snd_or (ha : Snd P B C j a) (hb : Snd P B C j b) : Snd P B C j (.or a b) where
  e := fun {c Z X e} F h => by
    cases e <;> try exact Bool.noConfusion (show false = true from h)
    rename_i op es pos
    cases op <;> try exact Bool.noConfusion (show false = true from h)
    match es, h with
    | e :: f :: r, h =>
      simp only [mE, Bool.and_eq_true] at h
      have k := hb.e F h.2
      exact ⟨g_orV (ha.e F h.1).1 k.1, (g_or (ha.e F h.1).2 (pw_of k.2)).pt⟩
    | [], h => exact Bool.noConfusion (show false = true from h)
    | [_], h => exact Bool.noConfusion (show false = true from h)
  b := no_b fun _ e => by cases e <;> rfl
  s := no_s fun _ _ => rfl
  p := no_p fun _ _ => rfl
  w := no_w fun _ _ _ => rfl
theorem snd_one (ha : Snd P B C j a) : Snd P B C j (.one a) where
  e := fun {c Z X e} F h => by
    cases e <;> try exact Bool.noConfusion (show false = true from h)
    rename_i op es pos
    match es, h with
    | [e], h =>
      have k := ha.e F (show mE P c a e = true from h)
      exact ⟨g_one k.1, g_oneT k.2⟩
    | [], h => exact Bool.noConfusion (show false = true from h)
    | _ :: _ :: _, h => exact Bool.noConfusion (show false = true from h)
  b := no_b fun _ e => by cases e <;> rfl
  s := no_s fun _ _ => rfl
  p := no_p fun _ _ => rfl
  w := no_w fun _ _ _ => rfl
theorem snd_ife (hd : Snd P B C j d) (ha : Snd P B C j a) (hb : Snd P B C j b) : Snd P B C j (.ife d a b) where
  e := fun {c Z X e} F h => by
    cases e <;> try exact Bool.noConfusion (show false = true from h)
    rename_i t e f pos
    simp only [mE, Bool.and_eq_true] at h
    obtain ⟨⟨h1, h2⟩, h3⟩ := h
    exact ⟨g_ife (hd.e F h1).2 (ha.e F h2).1 (hb.e F h3).1, g_ifeT (hd.e F h1).2 (ha.e F h2).2 (hb.e F h3).2⟩
  b := no_b fun _ e => by cases e <;> rfl
  s := no_s fun _ _ => rfl
  p := no_p fun _ _ => rfl
  w := no_w fun _ _ _ => rfl
theorem snd_nil : Snd P B C j .nil where
  e := no_e fun _ e => by cases e <;> rfl
  b := no_b fun _ e => by cases e <;> rfl
  s := fun {c Z X es} F h => by
    cases es with
    | nil => exact g_nil
    | cons _ _ => exact Bool.noConfusion (show false = true from h)
  p := fun {c Z X o} F h => by
    cases o with
    | none => exact g_noPart
    | some _ => exact Bool.noConfusion (show false = true from h)
  w := no_w fun _ _ _ => rfl
theorem snd_cons (ha : Snd P B C j a) (hb : Snd P B C j b) : Snd P B C j (.cons a b) where
  e := no_e fun _ e => by cases e <;> rfl
  b := no_b fun _ e => by cases e <;> rfl
  s := fun {c Z X es} F h => by
    cases es with
    | nil => exact Bool.noConfusion (show false = true from h)
    | cons e es =>
      simp only [mEs, Bool.and_eq_true] at h
      obtain ⟨⟨h1, h2⟩, h3⟩ := h
      exact g_cons (ha.e F h2).1 (hb.s F h3) (star_ok h1 _ _)
  p := no_p fun _ o => by cases o <;> rfl
  w := no_w fun _ _ _ => rfl
theorem snd_prt (ha : Snd P B C j a) : Snd P B C j (.prt a) where
  e := no_e fun _ e => by cases e <;> rfl
  b := no_b fun _ e => by cases e <;> rfl
  s := no_s fun _ es => by cases es <;> rfl
  p := fun {c Z X o} F h => by
    cases o with
    | none => exact Bool.noConfusion (show false = true from h)
    | some e => exact g_part (ha.e F (show mE P c a e = true from h)).1
  w := no_w fun _ _ _ => rfl
theorem snd_tup (ha : Snd P B C j a) : Snd P B C j (.tup a) where
  e := fun {c Z X e} F h => by
    cases e <;> try exact Bool.noConfusion (show false = true from h)
    rename_i es k pos
    simp only [mE, Bool.and_eq_true, decide_eq_true_eq] at h
    refine both (g_tup (ha.s F h.1) fun ρ S ds S' e => by
      rw [evs_len a e]
      exact h.2) fun _ => rfl
  b := no_b fun _ e => by cases e <;> rfl
  s := no_s fun _ es => by cases es <;> rfl
  p := no_p fun _ o => by cases o <;> rfl
  w := no_w fun _ _ _ => rfl
theorem e_lst (ha : Snd P B C j a) {c : SC} {Z : Fm} {X : Cx} {e : Expr} (F : XF P B C j c Z X) (h : mE P c (.lst a) e = true) : PE X e (tG Z (ev C B (.lst a))) ∧ PT X e (tGT Z (ev C B (.lst a))) := by
  cases e <;> try exact Bool.noConfusion (show false = true from h)
  rename_i es pos
  simp only [mE, Bool.and_eq_true, decide_eq_true_eq] at h
  refine both (g_lst (ha.s F h.1) fun ρ S ds S' e => by
    rw [evs_len a e]
    exact h.2) fun _ => rfl
theorem snd_lst (ha : Snd P B C j a) : Snd P B C j (.lst a) where
  e := e_lst ha
  b := fun {c Z X e} F h => g_toB (e_lst ha F (e := e) (by cases e <;> first | exact h | exact Bool.noConfusion (show false = true from h))).1
  s := no_s fun _ es => by cases es <;> rfl
  p := no_p fun _ o => by cases o <;> rfl
  w := no_w fun _ _ _ => rfl
theorem e_idx (ha : Snd P B C j a) (hb : Snd P B C j b) {c : SC} {Z : Fm} {X : Cx} {e : Expr} (F : XF P B C j c Z X) (h : mE P c (.idx a b) e = true) : PE X e (tG Z (ev C B (.idx a b))) ∧ PT X e (tGT Z (ev C B (.idx a b))) := by
  cases e <;> try exact Bool.noConfusion (show false = true from h)
  rename_i e s pos
  simp only [mE, Bool.and_eq_true] at h
  obtain ⟨⟨h1, h2⟩, h3⟩ := h
  refine both (g_idx F.ok (ha.b F h2) (hb.e F h3).1 (ix_ok h1)) fun _ => rfl
theorem snd_idx (ha : Snd P B C j a) (hb : Snd P B C j b) : Snd P B C j (.idx a b) where
  e := e_idx ha hb
  b := fun {c Z X e} F h => g_toB (e_idx ha hb F (e := e) (by cases e <;> first | exact h | exact Bool.noConfusion (show false = true from h))).1
  s := no_s fun _ es => by cases es <;> rfl
  p := no_p fun _ o => by cases o <;> rfl
  w := no_w fun _ _ _ => rfl
theorem e_slc (ha : Snd P B C j a) (hb : Snd P B C j b) (hd : Snd P B C j d) {c : SC} {Z : Fm} {X : Cx} {e : Expr} (F : XF P B C j c Z X) (h : mE P c (.slc a b d) e = true) : PE X e (tG Z (ev C B (.slc a b d))) ∧ PT X e (tGT Z (ev C B (.slc a b d))) := by
  cases e <;> try exact Bool.noConfusion (show false = true from h)
  rename_i e s pos
  cases s <;> try exact Bool.noConfusion (show false = true from h)
  rename_i l hi st p2
  cases st with
  | some _ => exact Bool.noConfusion (show false = true from h)
  | none =>
    simp only [mE, Bool.and_eq_true] at h
    obtain ⟨⟨h1, h2⟩, h3⟩ := h
    refine both (g_slc F.ok (ha.b F h1) (hb.p F h2) (hd.p F h3)) fun _ => rfl
theorem snd_slc (ha : Snd P B C j a) (hb : Snd P B C j b) (hd : Snd P B C j d) : Snd P B C j (.slc a b d) where
  e := e_slc ha hb hd
  b := fun {c Z X e} F h => g_toB (e_slc ha hb hd F (e := e) (by
    cases e <;> try exact Bool.noConfusion (show false = true from h)
    rename_i e s pos
    cases s <;> try exact Bool.noConfusion (show false = true from h)
    rename_i l hi st p2
    cases st with
    | some _ => exact Bool.noConfusion (show false = true from h)
    | none => exact h)).1
  s := no_s fun _ es => by cases es <;> rfl
  p := no_p fun _ o => by cases o <;> rfl
  w := no_w fun _ _ _ => rfl
theorem e_call {f : Nat} (ha : Snd P B C j a) {c : SC} {Z : Fm} {X : Cx} {e : Expr} (F : XF P B C j c Z X) (h : mE P c (.call f a) e = true) : PE X e (tG Z (ev C B (.call f a))) ∧ PT X e (tGT Z (ev C B (.call f a))) := by
  cases e <;> try exact Bool.noConfusion (show false = true from h)
  rename_i g es ks pos
  cases g <;> try exact Bool.noConfusion (show false = true from h)
  rename_i x px
  match es, ks, h with
  | e :: es, [], h =>
    simp only [mE, Bool.and_eq_true, Bool.or_eq_true, beq_iff_eq, Bool.not_eq_true'] at h
    obtain ⟨⟨⟨⟨⟨h0, h1⟩, h2⟩, h3⟩, h4⟩, h5⟩ := h
    simp only [List.all_cons, Bool.and_eq_true] at h4
    have main : ∃ ad fd ps, X.mg x = some (.ref ad) ∧ PySem.W.keepIn X.K (.ref ad) = true ∧ Binds X.K fd ps [] ∧ FnAt X.prog X.w X.K X.mg X.base (L2.CX X.prog X.w) X.A j ad fd ps (spG Z.G Z.cx (lenI a) (C.fn f)) := by
      cases hs : P.sm f with
      | false =>
        obtain ⟨ad, fd, ps, e1, e2, e3, e4⟩ := F.fns x f _ h1 hs
        exact ⟨ad, fd, ps, e1, e2, e3, .of e4⟩
      | true => exact F.sam (h0.resolve_left (by rw [hs]; decide)) x f _ h1 hs
    obtain ⟨ad, fd, ps, e1, e2, e3, e4⟩ := main
    refine both (g_callA F.tk e4 (F.room.mono (by omega)) (F.gl h2) e1 e2 e3 (ha.s F h5) (fun ρ S ds S' e => evs_len a e) h3 (star_ok h4.1 _ _) (back_ok h4.2 _ _)) fun _ => rfl
  | [], _, h => exact Bool.noConfusion (show false = true from h)
  | _ :: _, _ :: _, h => exact Bool.noConfusion (show false = true from h)
theorem snd_call (f : Nat) (ha : Snd P B C j a) : Snd P B C j (.call f a) where
  e := e_call ha
  b := fun {c Z X e} F h => g_toB (e_call ha F (e := e) (by
    cases e <;> try exact Bool.noConfusion (show false = true from h)
    rename_i g es ks pos
    cases g <;> try exact Bool.noConfusion (show false = true from h)
    rename_i x px
    match es, ks, h with
    | e :: es, [], h => exact h
    | [], _, h => exact Bool.noConfusion (show false = true from h)
    | _ :: _, _ :: _, h => exact Bool.noConfusion (show false = true from h))).1
  s := no_s fun _ es => by cases es <;> rfl
  p := no_p fun _ o => by cases o <;> rfl
  w := no_w fun _ _ _ => rfl
end
end
end RB

set_option Elab.async false
set_option linter.all false
set_option maxRecDepth 100000
set_option maxHeartbeats 4000000
set_option autoImplicit false
/-! The matcher is right: what is built in, comprehensions, what a loop walks. -/
namespace RB
open PySem PySem.Spec PyProof.Rows L2

section
variable {P : PC} {B : Base} {C : Calls} {j : Nat} {a b d : I}
theorem bt_min : bootBuiltins "min" = some (.builtin "min") := by decide +kernel
theorem bt_max : bootBuiltins "max" = some (.builtin "max") := by decide +kernel
theorem bt_sum : bootBuiltins "sum" = some (.builtin "sum") := by decide +kernel
theorem bt_all : bootBuiltins "all" = some (.builtin "all") := by decide +kernel
theorem bt_len : bootBuiltins "len" = some (.builtin "len") := by decide +kernel
theorem bt_str : bootBuiltins "str" = some (.type "str") := by decide +kernel
theorem bt_int : bootBuiltins "int" = some (.type "int") := by decide +kernel
theorem bt_tuple : bootBuiltins "tuple" = some (.type "tuple") := by decide +kernel
theorem bt_list : bootBuiltins "list" = some (.type "list") := by decide +kernel
theorem e_bi {m : Bi} (ha : Snd P B C j a) {c : SC} {Z : Fm} {X : Cx} {e : Expr} (F : XF P B C j c Z X) (h : mE P c (.bi m a) e = true) : PE X e (tG Z (ev C B (.bi m a))) ∧ PT X e (tGT Z (ev C B (.bi m a))) := by
  cases e <;> try exact Bool.noConfusion (show false = true from h)
  rename_i g es ks pos
  cases g <;> try exact Bool.noConfusion (show false = true from h)
  rename_i x px
  match es, ks, h with
  | [e], [], h =>
    simp only [mE, Bool.and_eq_true, beq_iff_eq] at h
    obtain ⟨⟨⟨h1, h2⟩, h3⟩, h4⟩ := h
    have q := (ha.e F h4).1
    have st := star_ok h3 [] X.env
    have hg := F.gl h2
    cases m <;> try (cases h1; done)
    all_goals cases h1
    · exact both (g_b1 (len_ok (G := Z.G) F.ok.hK) hg (F.bt "len" (by unfold blt; simp)) bt_len (by decide) (by decide) q st) fun _ => rfl
    · exact both (g_b1 (all_ok (G := Z.G) F.ok.calm F.ok.hK) hg (F.bt "all" (by unfold blt; simp)) bt_all (by decide) (by decide) q st) fun _ => rfl
    · exact both (g_b1 (sum_ok (G := Z.G) F.ok.calm F.ok.hK) hg (F.bt "sum" (by unfold blt; simp)) bt_sum (by decide) (by decide) q st) fun _ => rfl
    · exact both (g_b1 (max_ok (G := Z.G) F.ok.calm F.ok.hK) hg (F.bt "max" (by unfold blt; simp)) bt_max (by decide) (by decide) q st) fun _ => rfl
    · exact both (g_t1 (str_ok (G := Z.G)) hg (F.bt "str" (by unfold blt; simp)) bt_str (by decide) (by decide) q st) fun _ => rfl
    · exact both (g_t1 (int_ok (G := Z.G)) hg (F.bt "int" (by unfold blt; simp)) bt_int (by decide) (by decide) q st) fun _ => rfl
    · exact both (g_t1 (tuple_ok (G := Z.G) F.ok.hK) hg (F.bt "tuple" (by unfold blt; simp)) bt_tuple (by decide) (by decide) q st) fun _ => rfl
    · exact both (g_t1 (list_ok (G := Z.G) F.ok.hK) hg (F.bt "list" (by unfold blt; simp)) bt_list (by decide) (by decide) q st) fun _ => rfl
  | [], _, h => exact Bool.noConfusion (show false = true from h)
  | [_], _ :: _, h => exact Bool.noConfusion (show false = true from h)
  | _ :: _ :: _, _, h => exact Bool.noConfusion (show false = true from h)
theorem snd_bi (m : Bi) (ha : Snd P B C j a) : Snd P B C j (.bi m a) where
  e := e_bi ha
  b := no_b fun _ e => by cases e <;> rfl
  s := no_s fun _ es => by cases es <;> rfl
  p := no_p fun _ o => by cases o <;> rfl
  w := no_w fun _ _ _ => rfl
theorem snd_srt (ha : Snd P B C j a) : Snd P B C j (.srt a) where
  e := fun {c Z X e} F h => by
    cases e <;> try exact Bool.noConfusion (show false = true from h)
    rename_i g es ks pos
    cases g <;> try exact Bool.noConfusion (show false = true from h)
    rename_i x px
    match es, ks, h with
    | [e], [], h =>
      cases e <;> try exact Bool.noConfusion (show false = true from h)
      rename_i g es ks p2
      cases g <;> try exact Bool.noConfusion (show false = true from h)
      rename_i y py
      match es, ks, h with
      | [e], [], h =>
        simp only [mE, Bool.and_eq_true, beq_iff_eq] at h
        obtain ⟨⟨⟨⟨⟨rfl, rfl⟩, h2⟩, h3⟩, h4⟩, h5⟩ := h
        exact both (g_sortset F.ok (F.gl h2) (F.bt _ (by unfold blt; simp)) (F.gl h3) (F.bt _ (by unfold blt; simp)) (ha.e F h5).1 (star_ok h4 _ _)) fun _ => rfl
      | [], _, h => exact Bool.noConfusion (show false = true from h)
      | [_], _ :: _, h => exact Bool.noConfusion (show false = true from h)
      | _ :: _ :: _, _, h => exact Bool.noConfusion (show false = true from h)
    | [], _, h => exact Bool.noConfusion (show false = true from h)
    | [e], _ :: _, h => simp [mE] at h
    | e :: _ :: _, _, h => simp [mE] at h
  b := no_b fun _ e => by cases e <;> rfl
  s := no_s fun _ es => by cases es <;> rfl
  p := no_p fun _ o => by cases o <;> rfl
  w := no_w fun _ _ _ => rfl
theorem snd_bi2 (m : Bi2) (ha : Snd P B C j a) (hb : Snd P B C j b) : Snd P B C j (.bi2 m a b) where
  e := fun {c Z X e} F h => by
    cases e <;> try exact Bool.noConfusion (show false = true from h)
    rename_i g es ks pos
    cases g <;> try exact Bool.noConfusion (show false = true from h)
    rename_i x px
    match es, ks, h with
    | [e, f], [], h =>
      simp only [mE, Bool.and_eq_true, beq_iff_eq] at h
      obtain ⟨⟨⟨⟨⟨h1, h2⟩, h3⟩, h4⟩, h5⟩, h6⟩ := h
      have q := (ha.e F h5).1
      have q2 := (hb.e F h6).1
      have hg := F.gl h2
      cases m <;> try (cases h1; done)
      all_goals cases h1
      · exact both (g_b2 (min2_ok (G := Z.G) F.ok.calm) hg (F.bt "min" (by unfold blt; simp)) bt_min (by decide) (by decide) q q2 (star_ok h3 _ _) (star_ok h4 _ _)) fun _ => rfl
      · exact both (g_b2 (max2_ok (G := Z.G) F.ok.calm) hg (F.bt "max" (by unfold blt; simp)) bt_max (by decide) (by decide) q q2 (star_ok h3 _ _) (star_ok h4 _ _)) fun _ => rfl
    | [], _, h => exact Bool.noConfusion (show false = true from h)
    | [_], _, h => exact Bool.noConfusion (show false = true from h)
    | [_, _], _ :: _, h => exact Bool.noConfusion (show false = true from h)
    | _ :: _ :: _ :: _, _, h => exact Bool.noConfusion (show false = true from h)
  b := no_b fun _ e => by cases e <;> rfl
  s := no_s fun _ es => by cases es <;> rfl
  p := no_p fun _ o => by cases o <;> rfl
  w := no_w fun _ _ _ => rfl
theorem snd_mth (m : Bi2) (ha : Snd P B C j a) (hb : Snd P B C j b) : Snd P B C j (.mth m a b) where
  e := fun {c Z X e} F h => by
    cases e <;> try exact Bool.noConfusion (show false = true from h)
    rename_i g es ks pos
    cases g <;> try exact Bool.noConfusion (show false = true from h)
    rename_i o x px
    match es, ks, h with
    | [e], [], h =>
      simp only [mE, Bool.and_eq_true, beq_iff_eq] at h
      obtain ⟨⟨⟨⟨⟨h1, h2⟩, h3⟩, h4⟩, h5⟩, h6⟩ := h
      have q := (ha.e F h5).1
      have q2 := (hb.e F h6).1
      have hl : (px.endLine == pos.line) = true := beq_iff_eq.mpr h3
      cases m <;> try (cases h1; done)
      all_goals cases h1
      · exact both (g_join F.ok q q2 h2 hl h4) fun _ => rfl
      · exact both (g_index F.ok q q2 h2 hl h4) fun _ => rfl
    | [], _, h => exact Bool.noConfusion (show false = true from h)
    | [_], _ :: _, h => exact Bool.noConfusion (show false = true from h)
    | _ :: _ :: _, _, h => exact Bool.noConfusion (show false = true from h)
  b := no_b fun _ e => by cases e <;> rfl
  s := no_s fun _ es => by cases es <;> rfl
  p := no_p fun _ o => by cases o <;> rfl
  w := no_w fun _ _ _ => rfl
theorem ty_blt (t : Ty) : Str.ofString (tyStr t) ∈ blt := by cases t <;> (unfold blt tyStr; decide)
theorem snd_isi (ts : List Ty) (ha : Snd P B C j a) : Snd P B C j (.isi a ts) where
  e := fun {c Z X e} F h => by
    cases e <;> try exact Bool.noConfusion (show false = true from h)
    rename_i g es ks pos
    cases g <;> try exact Bool.noConfusion (show false = true from h)
    rename_i x px
    match es, ks, h with
    | [e, y], [], h =>
      cases y <;> try exact Bool.noConfusion (show false = true from h)
      · rename_i y py
        simp only [mE, Bool.and_eq_true, beq_iff_eq] at h
        obtain ⟨⟨⟨⟨⟨h1, h2⟩, h3⟩, h4⟩, h5⟩, h6⟩ := h
        subst h1
        match ts, h5 with
        | [t], h5 =>
          have h5 : y = _ := beq_iff_eq.mp h5
          subst h5
          exact both (g_isi F.ok (F.gl h2) (F.bt _ (by unfold blt; simp)) (F.gl h4) (F.bt _ (ty_blt t)) (ha.e F h6).1 (star_ok h3 _ _)) fun _ => rfl
        | [], h5 => cases h5
        | _ :: _ :: _, h5 => cases h5
      · rename_i es k p2
        simp only [mE, Bool.and_eq_true, beq_iff_eq, decide_eq_true_eq] at h
        obtain ⟨⟨⟨⟨⟨⟨h1, h2⟩, h3⟩, h4⟩, h5⟩, h6⟩, h7⟩ := h
        subst h1
        refine both (g_isiT F.ok (F.gl h2) (F.bt _ (by unfold blt; simp)) (fun t _ => F.bt _ (ty_blt t)) h4 ?_ h6 (ha.e F h7).1 (star_ok h3 _ _)) fun _ => rfl
        rw [F.sc]
        exact h5
    | [], _, h => exact Bool.noConfusion (show false = true from h)
    | [_], _, h => exact Bool.noConfusion (show false = true from h)
    | [_, y], _ :: _, h => cases y <;> exact Bool.noConfusion (show false = true from h)
    | _ :: y :: _ :: _, _, h => cases y <;> exact Bool.noConfusion (show false = true from h)
  b := no_b fun _ e => by cases e <;> rfl
  s := no_s fun _ es => by cases es <;> rfl
  p := no_p fun _ o => by cases o <;> rfl
  w := no_w fun _ _ _ => rfl

/-! ### comprehensions -/
theorem blk_kind {N : List Str} {sc scope : Scope} {own : List (Str × Nat)} (h : blkC N sc scope own = true) : scope.kind = .function := (blkOk_by h).kind
theorem snd_cmp0 (tg : Tg) (ha : Snd P B C j a) (hb : Snd P B C j b) : Snd P B C j (.cmp0 a tg b) where
  e := fun {c Z X e} F h => by
    cases e <;> try exact Bool.noConfusion (show false = true from h)
    rename_i elt gs scope pos
    match gs, h with
    | [⟨t, iter, [], k⟩], h =>
      simp only [mE, Bool.and_eq_true, beq_iff_eq] at h
      obtain ⟨⟨⟨⟨⟨rfl, h2⟩, h3⟩, h4⟩, h5⟩, h6⟩ := h
      have bk := blkOk_by h3
      have hk := bk.kind
      rw [← F.N, ← F.sc] at bk
      exact both (g_comp F.ok bk (ownT_ok h4) (hb.w F h5) (fun s H Cc cl fp => mT_ok (F.blk hk s H Cc cl fp) h4) (fun s H Cc cl fp => pts_true) (fun s H Cc cl fp => (ha.e (F.blk hk s H Cc cl fp) h6).1) (fold_ok h2 X.env)) fun _ => rfl
    | [], h => exact Bool.noConfusion (show false = true from h)
    | [⟨_, _, _ :: _, _⟩], h => exact Bool.noConfusion (show false = true from h)
    | ⟨_, _, [], _⟩ :: _ :: _, h => exact Bool.noConfusion (show false = true from h)
    | ⟨_, _, [_], _⟩ :: _ :: _, h => exact Bool.noConfusion (show false = true from h)
    | ⟨_, _, _ :: _ :: _, _⟩ :: _ :: _, h => exact Bool.noConfusion (show false = true from h)
  b := no_b fun _ e => by cases e <;> rfl
  s := no_s fun _ es => by cases es <;> rfl
  p := no_p fun _ o => by cases o <;> rfl
  w := no_w fun _ _ _ => rfl
theorem snd_cmp1 (tg : Tg) (ha : Snd P B C j a) (hb : Snd P B C j b) (hd : Snd P B C j d) : Snd P B C j (.cmp1 a tg b d) where
  e := fun {c Z X e} F h => by
    cases e <;> try exact Bool.noConfusion (show false = true from h)
    rename_i elt gs scope pos
    match gs, h with
    | [⟨t, iter, [g], k⟩], h =>
      simp only [mE, Bool.and_eq_true, beq_iff_eq] at h
      obtain ⟨⟨⟨⟨⟨⟨rfl, h2⟩, h3⟩, h4⟩, h5⟩, h6⟩, h7⟩ := h
      have bk := blkOk_by h3
      have hk := bk.kind
      rw [← F.N, ← F.sc] at bk
      exact both (g_comp F.ok bk (ownT_ok h4) (hb.w F h5) (fun s H Cc cl fp => mT_ok (F.blk hk s H Cc cl fp) h4) (fun s H Cc cl fp => pts_one (hd.e (F.blk hk s H Cc cl fp) h6).2) (fun s H Cc cl fp => (ha.e (F.blk hk s H Cc cl fp) h7).1) (fold_ok h2 X.env)) fun _ => rfl
    | [], h => exact Bool.noConfusion (show false = true from h)
    | [⟨_, _, [], _⟩], h => exact Bool.noConfusion (show false = true from h)
    | [⟨_, _, _ :: _ :: _, _⟩], h => exact Bool.noConfusion (show false = true from h)
    | ⟨_, _, [], _⟩ :: _ :: _, h => exact Bool.noConfusion (show false = true from h)
    | ⟨_, _, [_], _⟩ :: _ :: _, h => exact Bool.noConfusion (show false = true from h)
    | ⟨_, _, _ :: _ :: _, _⟩ :: _ :: _, h => exact Bool.noConfusion (show false = true from h)
  b := no_b fun _ e => by cases e <;> rfl
  s := no_s fun _ es => by cases es <;> rfl
  p := no_p fun _ o => by cases o <;> rfl
  w := no_w fun _ _ _ => rfl

/-! ### what a loop walks -/
theorem snd_seqL (ha : Snd P B C j a) : Snd P B C j (.seqL a) where
  e := no_e fun _ e => by cases e <;> rfl
  b := no_b fun _ e => by cases e <;> rfl
  s := no_s fun _ es => by cases es <;> rfl
  p := no_p fun _ o => by cases o <;> rfl
  w := fun {c Z X t e} F h => i_list F.ok (ha.e F h).1
theorem snd_seqT (ha : Snd P B C j a) : Snd P B C j (.seqT a) where
  e := no_e fun _ e => by cases e <;> rfl
  b := no_b fun _ e => by cases e <;> rfl
  s := no_s fun _ es => by cases es <;> rfl
  p := no_p fun _ o => by cases o <;> rfl
  w := fun {c Z X t e} F h => i_tup F.ok (ha.e F h).1
theorem snd_seqS (ha : Snd P B C j a) : Snd P B C j (.seqS a) where
  e := no_e fun _ e => by cases e <;> rfl
  b := no_b fun _ e => by cases e <;> rfl
  s := no_s fun _ es => by cases es <;> rfl
  p := no_p fun _ o => by cases o <;> rfl
  w := fun {c Z X t e} F h => i_str F.ok (ha.e F h).1
theorem snd_rng1 (ha : Snd P B C j a) : Snd P B C j (.rng1 a) where
  e := no_e fun _ e => by cases e <;> rfl
  b := no_b fun _ e => by cases e <;> rfl
  s := no_s fun _ es => by cases es <;> rfl
  p := no_p fun _ o => by cases o <;> rfl
  w := fun {c Z X t e} F h => by
    cases e <;> try exact Bool.noConfusion (show false = true from h)
    rename_i g es ks pos
    cases g <;> try exact Bool.noConfusion (show false = true from h)
    rename_i x px
    match es, ks, h with
    | [e], [], h =>
      simp only [mI, Bool.and_eq_true, beq_iff_eq] at h
      obtain ⟨⟨⟨rfl, h2⟩, h3⟩, h4⟩ := h
      exact i_rng1 (ha.e F h4).1 (F.gl h2) (F.bt _ (by unfold blt; simp)) (star_ok h3 _ _)
    | [], _, h => exact Bool.noConfusion (show false = true from h)
    | [_], _ :: _, h => exact Bool.noConfusion (show false = true from h)
    | _ :: _ :: _, _, h => exact Bool.noConfusion (show false = true from h)
theorem snd_rng2 (ha : Snd P B C j a) (hb : Snd P B C j b) : Snd P B C j (.rng2 a b) where
  e := no_e fun _ e => by cases e <;> rfl
  b := no_b fun _ e => by cases e <;> rfl
  s := no_s fun _ es => by cases es <;> rfl
  p := no_p fun _ o => by cases o <;> rfl
  w := fun {c Z X t e} F h => by
    cases e <;> try exact Bool.noConfusion (show false = true from h)
    rename_i g es ks pos
    cases g <;> try exact Bool.noConfusion (show false = true from h)
    rename_i x px
    match es, ks, h with
    | [e, f], [], h =>
      simp only [mI, Bool.and_eq_true, beq_iff_eq] at h
      obtain ⟨⟨⟨⟨⟨rfl, h2⟩, h3⟩, h4⟩, h5⟩, h6⟩ := h
      exact i_rng2 (ha.e F h5).1 (hb.e F h6).1 (F.gl h2) (F.bt _ (by unfold blt; simp)) (star_ok h3 _ _) (star_ok h4 _ _)
    | [], _, h => exact Bool.noConfusion (show false = true from h)
    | [_], _, h => exact Bool.noConfusion (show false = true from h)
    | [_, _], _ :: _, h => exact Bool.noConfusion (show false = true from h)
    | _ :: _ :: _ :: _, _, h => exact Bool.noConfusion (show false = true from h)
theorem snd_zip (ha : Snd P B C j a) (hb : Snd P B C j b) : Snd P B C j (.zip a b) where
  e := no_e fun _ e => by cases e <;> rfl
  b := no_b fun _ e => by cases e <;> rfl
  s := no_s fun _ es => by cases es <;> rfl
  p := no_p fun _ o => by cases o <;> rfl
  w := fun {c Z X t e} F h => by
    cases t <;> try exact Bool.noConfusion (show false = true from h)
    cases e <;> try exact Bool.noConfusion (show false = true from h)
    rename_i g es ks pos
    cases g <;> try exact Bool.noConfusion (show false = true from h)
    rename_i x px
    match es, ks, h with
    | [e, f], [], h =>
      simp only [mI, Bool.and_eq_true, beq_iff_eq] at h
      obtain ⟨⟨⟨⟨⟨rfl, h2⟩, h3⟩, h4⟩, h5⟩, h6⟩ := h
      exact i_zip F.ok (ha.e F h5).1 (hb.e F h6).1 (F.gl h2) (F.bt _ (by unfold blt; simp)) (star_ok h3 _ _) (star_ok h4 _ _)
    | [], _, h => exact Bool.noConfusion (show false = true from h)
    | [_], _, h => exact Bool.noConfusion (show false = true from h)
    | [_, _], _ :: _, h => exact Bool.noConfusion (show false = true from h)
    | _ :: _ :: _ :: _, _, h => exact Bool.noConfusion (show false = true from h)
theorem snd_enumS (ha : Snd P B C j a) : Snd P B C j (.enumS a) where
  e := no_e fun _ e => by cases e <;> rfl
  b := no_b fun _ e => by cases e <;> rfl
  s := no_s fun _ es => by cases es <;> rfl
  p := no_p fun _ o => by cases o <;> rfl
  w := fun {c Z X t e} F h => by
    cases t <;> try exact Bool.noConfusion (show false = true from h)
    cases e <;> try exact Bool.noConfusion (show false = true from h)
    rename_i g es ks pos
    cases g <;> try exact Bool.noConfusion (show false = true from h)
    rename_i x px
    match es, ks, h with
    | [e], [], h =>
      simp only [mI, Bool.and_eq_true, beq_iff_eq] at h
      obtain ⟨⟨⟨rfl, h2⟩, h3⟩, h4⟩ := h
      exact i_enumS (ha.e F h4).1 (F.gl h2) (F.bt _ (by unfold blt; simp)) (star_ok h3 _ _)
    | [], _, h => exact Bool.noConfusion (show false = true from h)
    | [_], _ :: _, h => exact Bool.noConfusion (show false = true from h)
    | _ :: _ :: _, _, h => exact Bool.noConfusion (show false = true from h)
/-- _law_told(lambda ..: e) -/
theorem snd_told (ha : Snd P B C j a) : Snd P B C j (.told a) where
  e := fun {c Z X e} F h => by
    cases e <;> try exact Bool.noConfusion (show false = true from h)
    rename_i f es ks pos
    cases f <;> try exact Bool.noConfusion (show false = true from h)
    rename_i x px
    match es, ks, h with
    | [e], [], h =>
      cases e <;> try exact Bool.noConfusion (show false = true from h)
      rename_i params body scope lpos
      simp only [mE, Bool.and_eq_true, beq_iff_eq] at h
      obtain ⟨⟨⟨⟨⟨h1, h2⟩, rfl⟩, h4⟩, h5⟩, h6⟩ := h
      obtain ⟨mk, hsl⟩ := F.mkf h1
      have q : PE X (.Call (.Name ("_law_told" : Str) px) [.Lambda params body scope lpos] [] pos) (tG Z (ev C B (.told a))) :=
        g_told (j := j) F.ok (F.tld h2) mk (F.gl h4) (lamLook_ok F h5) (by have := F.room; rwa [hsl] at this) fun cc f A outer s H E hr => (ha.e (F.lam rfl h5 hr) h6).1
      exact ⟨q, g_plain q fun _ => rfl⟩
    | [], _, h => exact Bool.noConfusion (show false = true from h)
    | [e], _ :: _, h => cases e <;> exact Bool.noConfusion (show false = true from h)
    | e :: _ :: _, _, h => cases e <;> exact Bool.noConfusion (show false = true from h)
  b := no_b fun _ e => by cases e <;> rfl
  s := no_s fun _ es => by cases es <;> rfl
  p := no_p fun _ o => by cases o <;> rfl
  w := no_w fun _ _ _ => rfl
end
end RB

set_option Elab.async false
set_option linter.all false
set_option maxRecDepth 100000
set_option maxHeartbeats 4000000
set_option autoImplicit false
/-! [_law_told(call) for call in calls], in the matcher. -/
namespace RB
open PySem PySem.Spec PyProof.Rows L2
section
variable {P : PC} {B : Base} {C : Calls} {j : Nat}
/-- [_law_told(call) for call in calls] -/
theorem snd_tolds (i l : Nat) : Snd P B C j (.tolds i l) where
  e := fun {c Z X e} F h => by
    cases e <;> try exact Bool.noConfusion (show false = true from h)
    rename_i elt gs scope pos
    unfold mE at h
    split at h <;> try exact Bool.noConfusion h
    all_goals try contradiction
    rename_i x px y py pc y2 py2 z pz k sc2 pos2 e1 e2
    cases e1
    cases e2
    simp only [Bool.and_eq_true, beq_iff_eq] at h
    obtain ⟨⟨⟨⟨⟨⟨⟨⟨h1, h2⟩, rfl⟩, rfl⟩, rfl⟩, h3⟩, h4⟩, h5⟩, h6⟩ := h
    cases eN : c.N.findIdx? (· == y2) with
    | none => rw [eN] at h6; cases h6
    | some ic =>
      rw [eN] at h6
      simp only [Bool.and_eq_true, Bool.not_eq_true'] at h6
      obtain ⟨⟨⟨⟨k1, k2⟩, k3⟩, k4⟩, k5⟩ := h6
      obtain ⟨mk, hsl⟩ := F.mkf h1
      have hl : c.lams[l]? = some (c.lams[l]?.get h5) := by simp
      generalize c.lams[l]?.get h5 = es at hl
      have bk : BlkOk X.N X.env.scope scope [(y2, ic)] := by rw [F.N, F.sc]; exact blkOk_by k1
      obtain ⟨a1, a2, a3, a4⟩ := F.vis h3
      have lo := fun (s : Shared) (H : Hp) (Cc : Addr) (cl : List (Str × Addr)) (fp : List Addr) => (F.blk bk.kind s H Cc cl fp).loc k3
      have hN : X.N[ic]? = some y2 := by
        obtain ⟨hb, hp, _⟩ := List.findIdx?_eq_some_iff_getElem.mp eN
        rw [F.N, List.getElem?_eq_getElem hb]
        exact congrArg some (by simpa using hp)
      have q := g_tolds (Z := Z) (X := X) (B := B) (C0 := ⟨C.fn, fun _ _ _ => .no⟩) (es := es) (i := i) (l := l) (j := j) (ic := ic) (p := px) (py := py) (p2 := py2) (px := pz) (pc := pc) (pos := pos) F.ok (F.tld h2) (by have := F.room; rwa [hsl] at this) bk
        (fun s H Cc cl fp => (F.blk bk.kind s H Cc cl fp).gl k2) (fun Cc cl => (lo X.s_0 X.H_0 Cc cl []).2.1) (fun Cc cl => (lo X.s_0 X.H_0 Cc cl []).2.2) hN k4 k5 a1 a2 a3 a4 (by rw [F.O]; simpa using h4) (fun Ls hLs => F.lfs h1 l es Ls hl hLs)
      have e : ev C B (.tolds i l) = fun ρ S => match getV ρ i with
          | some (.clo l' _) => if l' = l then (toldL ⟨C.fn, fun _ _ _ => .no⟩ B es ρ S).bind fun ds S1 => R.ok (D.lst ds) S1 else R.no
          | _ => .no := by
        funext ρ S
        show (match getV ρ i with
          | some (.clo l' _) => if l' = l then (C.tl l ρ S).bind fun ds S1 => R.ok (D.lst ds) S1 else R.no
          | _ => R.no) = _
        rw [F.tl h1 l es hl]
      rw [e]
      exact ⟨q, g_plain q fun _ => rfl⟩
  b := no_b fun _ e => by cases e <;> rfl
  s := no_s fun _ es => by cases es <;> rfl
  p := no_p fun _ o => by cases o <;> rfl
  w := no_w fun _ _ _ => rfl
end
end RB

set_option Elab.async false
set_option linter.all false
set_option maxRecDepth 100000
set_option maxHeartbeats 4000000
set_option autoImplicit false
/-! Every expression; statements: the look, and what follows. -/
namespace RB
open PySem PySem.Spec PyProof.Rows L2

section
variable {P : PC} {B : Base} {C : Calls} {j : Nat}
theorem snd_no {i : I} (h1 : ∀ c e, mE P c i e = false) (h2 : ∀ c e, mB P c i e = false) (h3 : ∀ c es, mEs P c i es = false) (h4 : ∀ c o, mP P c i o = false) (h5 : ∀ c t e, mI P c i t e = false) : Snd P B C j i :=
  ⟨no_e h1, no_b h2, no_s h3, no_p h4, no_w h5⟩
theorem snd_all (i : I) : Snd P B C j i := by
  induction i with
  | cst d => exact snd_cst d
  | var i => exact snd_var i
  | own i => exact snd_own i
  | glb i => exact snd_glb i
  | bin o a b ha hb => exact snd_bin o ha hb
  | neg a ha => exact snd_neg ha
  | not a ha => exact snd_not ha
  | cmp o a b ha hb => exact snd_cmp o ha hb
  | chn o p a b c ha hb hc => exact snd_chn o p ha hb hc
  | and a b ha hb => exact snd_and ha hb
  | or a b ha hb => exact snd_or ha hb
  | one a ha => exact snd_one ha
  | ife c a b hc ha hb => exact snd_ife hc ha hb
  | tup a ha => exact snd_tup ha
  | lst a ha => exact snd_lst ha
  | nil => exact snd_nil
  | cons a b ha hb => exact snd_cons ha hb
  | idx a b ha hb => exact snd_idx ha hb
  | slc a b c ha hb hc => exact snd_slc ha hb hc
  | prt a ha => exact snd_prt ha
  | call f a ha => exact snd_call f ha
  | bi m a ha => exact snd_bi m ha
  | srt a ha => exact snd_srt ha
  | bi2 m a b ha hb => exact snd_bi2 m ha hb
  | mth m a b ha hb => exact snd_mth m ha hb
  | isi a ts ha => exact snd_isi ts ha
  | cmp0 e tg it he hi => exact snd_cmp0 tg he hi
  | cmp1 e tg it d he hi hd => exact snd_cmp1 tg he hi hd
  | seqL a ha => exact snd_seqL ha
  | seqT a ha => exact snd_seqT ha
  | seqS a ha => exact snd_seqS ha
  | rng1 a ha => exact snd_rng1 ha
  | rng2 a b ha hb => exact snd_rng2 ha hb
  | zip a b ha hb => exact snd_zip ha hb
  | enumS a ha => exact snd_enumS ha
  | told a ha => exact snd_told ha
  | tolds i l => exact snd_tolds i l
  | _ => exact snd_no (fun _ e => by cases e <;> rfl) (fun _ e => by cases e <;> rfl) (fun _ es => by cases es <;> rfl) (fun _ o => by cases o <;> rfl) fun _ _ _ => rfl
end

/-! ### statements -/
/-- tuple stores that are none of the swapped ones -/
def swapN (sc : Scope) : Expr → Expr → Bool
  | .Tuple ts _ _, .Tuple vs _ _ => (swapB sc ts vs).isEqSome none
  | .List _ _, .Tuple _ _ _ => false
  | _, _ => true
theorem swapN_ok {t v : Expr} {env : PySem.Env} (hk : env.scope.kind = .function) (h : swapN env.scope t v = true) : swappedStores [t] v env = pure none := by
  cases t <;> first
    | rfl
    | (cases v <;> first
        | rfl
        | exact Bool.noConfusion (show false = true from h)
        | skip)
  rename_i ts k p vs k2 p2
  have h' : swapB env.scope ts vs = some none := by
    have h : (swapB env.scope ts vs).isEqSome none = true := h
    cases e : swapB env.scope ts vs with
    | none => rw [e] at h; cases h
    | some o =>
      rw [e] at h
      cases o with
      | none => rfl
      | some _ => cases h
  exact swapB_ok hk h'
def parOk (c : SC) (i : Nat) (x : Str) : Bool := (c.N[i]? == some x) && c.sc.names.lookup x == some .local && !c.O.contains i
mutual
def mS (P : PC) (c : SC) : T → Stmt → Bool
  | .skip, .Pass _ => true
  | .asg i e, .Assign [.Name x p] v _ => locN c i x && !c.O.contains i && mE P c e v && (match v with
    | .ListComp _ _ scope vp => !compSwap c.sc x p.line scope vp.line
    | v => noComp v)
  | .asgC i (.cmp0 e tg it), .Assign [.Name x p] (.ListComp elt [⟨t, iter, [], k⟩] scope vp) _ => locN c i x && !c.O.contains i && compSwap c.sc x p.line scope vp.line && mE P c (.cmp0 e tg it) (.ListComp elt [⟨t, iter, [], k⟩] scope vp)
  | .asgC i (.cmp1 e tg it d), .Assign [.Name x p] (.ListComp elt [⟨t, iter, [g], k⟩] scope vp) _ => locN c i x && !c.O.contains i && compSwap c.sc x p.line scope vp.line && mE P c (.cmp1 e tg it d) (.ListComp elt [⟨t, iter, [g], k⟩] scope vp)
  | .asgT tg e, .Assign [t] v _ => noStar t && mT c tg t && mE P c e v && noComp v && swapN c.sc t v
  | .par [i, k] as, .Assign [.Tuple [.Name x p, .Name y q] _ _] (.Tuple [a, b] _ _) _ => parOk c i x && parOk c k y && i != k && decide (swapB c.sc [.Name x p, .Name y q] [a, b] = some (some [x, y])) && mEs P c as [a, b]
  | .par [i, k, l] as, .Assign [.Tuple [.Name x p, .Name y q, .Name z r] _ _] (.Tuple [a, b, d] _ _) _ => parOk c i x && parOk c k y && parOk c l z && i != k && i != l && k != l && decide (swapB c.sc [.Name x p, .Name y q, .Name z r] [a, b, d] = some (some [x, y, z])) && mEs P c as [a, b, d]
  | .aug i o e, .AugAssign (.Name x _) op v _ => (o == .add || o == .sub) && op == opOf o && locN c i x && !c.O.contains i && mE P c e v
  | .own i as, .Assign [.Name x _] (.List es _) _ => locN c i x && c.O.contains i && mEs P c as es && decide (lenI as ≤ LIM)
  | .lams i l, .Assign [.Name x _] (.List es _) _ => c.mkl && locN c i x && c.O.contains i && decide (es.length ≤ LIM) && (match c.lams[l]? with | some e => mLams P c e es | none => false)
  | .sto i as, .Assign [.Name x _] (.List es _) _ => locN c i x && !c.O.contains i && mEs P c as es && decide (lenI as ≤ LIM)
  | .setS a k e, .Assign [.Subscript o s _] v _ => plainIxB s && noComp v && mE P c e v && mE P c a o && mE P c k s
  | .app i e, .Expr (.Call (.Attribute (.Name x _) y apos) [v] [] cpos) _ => y == ("append" : Str) && visN c i x && c.O.contains i && apos.endLine == cpos.line && noStar v && mE P c e v
  | .expr e, .Expr v _ => noComp v && mE P c e v
  | .ife d t e, .If test body orelse _ => mE P c d test && mSs P c t body && mSs P c e orelse
  | .for tg it b, .For t iter body [] _ => noSet iter && mI P c it t iter && mT c tg t && mSs P c b body
  | .whl d b, .While test body [] _ => mE P c d test && mSs P c b body
  | .ret e, .Return (some v) _ => mE P c e v
  | .rse k as, .Raise (some (.Call (.Name x _) (e :: es) [] _)) none _ => P.exc x == some (k, lenI as) && glN c x && !(x == ("__debug__" : Str)) && decide (2 ≤ c.sl) && (e :: es).all noStar && mEs P c as (e :: es)
  | .retO i, .Return (some (.Name x _)) _ => visN c i x
  | _, _ => false
def mSs (P : PC) (c : SC) : T → List Stmt → Bool
  | .skip, [] => true
  | .seq a b, s :: ss => mS P c a s && mSs P c b ss
  | _, _ => false
end
end RB

set_option Elab.async false
set_option linter.all false
set_option maxRecDepth 100000
set_option maxHeartbeats 4000000
set_option autoImplicit false
/-! The matcher is right: statements. -/
namespace RB
open PySem PySem.Spec PyProof.Rows L2

structure SndS (P : PC) (B : Base) (C : Calls) (j : Nat) (t : T) : Prop where
  s : ∀ {c : SC} {Z : Fm} {X : Cx} {st : Stmt}, XF P B C j c Z X → PassesOwn (model X.prog X.w) X.A X.env X.xe → mS P c t st = true → PS X st (tS Z (ex C B t))
  ss : ∀ {c : SC} {Z : Fm} {X : Cx} {st : List Stmt}, XF P B C j c Z X → PassesOwn (model X.prog X.w) X.A X.env X.xe → mSs P c t st = true → PSs X st (tS Z (ex C B t))

section
variable {P : PC} {B : Base} {C : Calls} {j : Nat}
theorem no_ss {t : T} (h : ∀ c st, mSs P c t st = false) {c : SC} {Z : Fm} {X : Cx} {st : List Stmt} (_ : XF P B C j c Z X) (_ : PassesOwn (model X.prog X.w) X.A X.env X.xe) (k : mSs P c t st = true) : PSs X st (tS Z (ex C B t)) := by
  rw [h] at k
  cases k
theorem no_st {t : T} (h : ∀ c st, mS P c t st = false) {c : SC} {Z : Fm} {X : Cx} {st : Stmt} (_ : XF P B C j c Z X) (_ : PassesOwn (model X.prog X.w) X.A X.env X.xe) (k : mS P c t st = true) : PS X st (tS Z (ex C B t)) := by
  rw [h] at k
  cases k
theorem not_own {c : SC} {Z : Fm} {X : Cx} (F : XF P B C j c Z X) {i : Nat} (h : c.O.contains i = false) : i ∉ Z.O := by
  rw [F.O]
  simpa using h
theorem is_own {c : SC} {Z : Fm} {X : Cx} (F : XF P B C j c Z X) {i : Nat} (h : c.O.contains i = true) : i ∈ Z.O := by
  rw [F.O]
  simpa using h
theorem XF.par {c : SC} {Z : Fm} {X : Cx} (F : XF P B C j c Z X) {i : Nat} {x : Str} (h : parOk c i x = true) : X.N[i]? = some x ∧ X.env.scope.names.lookup x = some .local ∧ i ∉ Z.O := by
  unfold parOk at h
  simp only [Bool.and_eq_true, beq_iff_eq, Bool.not_eq_true'] at h
  obtain ⟨⟨h1, h2⟩, h3⟩ := h
  exact ⟨by rw [F.N]; exact h1, by rw [F.sc]; exact h2, not_own F h3⟩
theorem XF.kd {c : SC} {Z : Fm} {X : Cx} (F : XF P B C j c Z X) : X.env.scope.kind = .function := by
  rw [F.sc]
  exact F.kind

theorem ss_skip : SndS P B C j .skip where
  s := fun {c Z X st} F hp h => by
    cases st <;> try exact Bool.noConfusion (show false = true from h)
    exact s_pass
  ss := fun {c Z X st} F hp h => by
    cases st with
    | nil => exact s_nil
    | cons _ _ => exact Bool.noConfusion (show false = true from h)
theorem ss_seq {a b : T} (ha : SndS P B C j a) (hb : SndS P B C j b) : SndS P B C j (.seq a b) where
  s := no_st fun _ st => by cases st <;> rfl
  ss := fun {c Z X st} F hp h => by
    cases st with
    | nil => exact Bool.noConfusion (show false = true from h)
    | cons s ss =>
      simp only [mSs, Bool.and_eq_true] at h
      exact s_cons (ha.s F hp h.1) (hb.ss F hp h.2)
theorem ss_asg (i : Nat) (e : I) : SndS P B C j (.asg i e) where
  s := fun {c Z X st} F hp h => by
    cases st <;> try exact Bool.noConfusion (show false = true from h)
    rename_i ts v pos
    match ts, h with
    | [t], h =>
      cases t <;> try exact Bool.noConfusion (show false = true from h)
      rename_i x p
      simp only [mS, Bool.and_eq_true, Bool.not_eq_true'] at h
      obtain ⟨⟨⟨h1, h2⟩, h3⟩, h4⟩ := h
      obtain ⟨a1, a2, a3⟩ := F.loc h1
      refine s_asg F.ok a1 a2 ((snd_all e).e F h3).1 ?_ a3 (not_own F h2)
      cases v <;> try exact swap_ok h4 _ _ _
      rename_i elt gs scope vp
      have h4 : compSwap c.sc x p.line scope vp.line = false := by simpa using h4
      rw [compSwap_ok F.kd, F.sc, h4]
    | [], h => exact Bool.noConfusion (show false = true from h)
    | t :: _ :: _, h => cases t <;> exact Bool.noConfusion (show false = true from h)
  ss := no_ss fun _ st => by cases st <;> rfl
theorem ss_asgT (tg : Tg) (e : I) : SndS P B C j (.asgT tg e) where
  s := fun {c Z X st} F hp h => by
    cases st <;> try exact Bool.noConfusion (show false = true from h)
    rename_i ts v pos
    match ts, h with
    | [t], h =>
      simp only [mS, Bool.and_eq_true] at h
      obtain ⟨⟨⟨⟨h1, h2⟩, h3⟩, h4⟩, h5⟩ := h
      refine s_asgT ((snd_all e).e F h3).1 (mT_ok F h2) (sole_ok h4 _ _ _) (swapN_ok F.kd (by rw [F.sc]; exact h5)) (by rw [asg_ok h1]; rfl)
    | [], h => exact Bool.noConfusion (show false = true from h)
    | _ :: _ :: _, h => exact Bool.noConfusion (show false = true from h)
  ss := no_ss fun _ st => by cases st <;> rfl
theorem ss_aug (i : Nat) (o : BOp) (e : I) : SndS P B C j (.aug i o e) where
  s := fun {c Z X st} F hp h => by
    cases st <;> try exact Bool.noConfusion (show false = true from h)
    rename_i t op v pos
    cases t <;> try exact Bool.noConfusion (show false = true from h)
    rename_i x p
    simp only [mS, Bool.and_eq_true, Bool.not_eq_true', Bool.or_eq_true, beq_iff_eq] at h
    obtain ⟨⟨⟨⟨h0, rfl⟩, h1⟩, h2⟩, h3⟩ := h
    obtain ⟨a1, a2, a3⟩ := F.loc h1
    have h0 : o = .add ∨ o = .sub := by simpa using h0
    exact s_aug F.ok h0 a1 a2 ((snd_all e).e F h3).1 a3 (not_own F h2)
  ss := no_ss fun _ st => by cases st <;> rfl
theorem ss_own (i : Nat) (as : I) : SndS P B C j (.own i as) where
  s := fun {c Z X st} F hp h => by
    cases st <;> try exact Bool.noConfusion (show false = true from h)
    rename_i ts v pos
    match ts, h with
    | [t], h =>
      cases t <;> try exact Bool.noConfusion (show false = true from h)
      rename_i x p
      cases v <;> try exact Bool.noConfusion (show false = true from h)
      rename_i es p2
      simp only [mS, Bool.and_eq_true, decide_eq_true_eq] at h
      obtain ⟨⟨⟨h1, h2⟩, h3⟩, h4⟩ := h
      obtain ⟨a1, a2, a3⟩ := F.loc h1
      exact s_own F.ok a1 a2 ((snd_all as).s F h3) (fun ρ S ds S' e => by rw [evs_len as e]; exact h4) a3 (is_own F h2)
    | [], h => exact Bool.noConfusion (show false = true from h)
    | t :: _ :: _, h => cases t <;> exact Bool.noConfusion (show false = true from h)
  ss := no_ss fun _ st => by cases st <;> rfl
theorem ss_sto (i : Nat) (as : I) : SndS P B C j (.sto i as) where
  s := fun {c Z X st} F hp h => by
    cases st <;> try exact Bool.noConfusion (show false = true from h)
    rename_i ts v pos
    match ts, h with
    | [t], h =>
      cases t <;> try exact Bool.noConfusion (show false = true from h)
      rename_i x p
      cases v <;> try exact Bool.noConfusion (show false = true from h)
      rename_i es p2
      simp only [mS, Bool.and_eq_true, decide_eq_true_eq, Bool.not_eq_true'] at h
      obtain ⟨⟨⟨h1, h2⟩, h3⟩, h4⟩ := h
      obtain ⟨a1, a2, a3⟩ := F.loc h1
      exact s_sto F.ok a1 a2 ((snd_all as).s F h3) (fun ρ S ds S' e => by rw [evs_len as e]; exact h4) a3 (not_own F h2)
    | [], h => exact Bool.noConfusion (show false = true from h)
    | t :: _ :: _, h => cases t <;> exact Bool.noConfusion (show false = true from h)
  ss := no_ss fun _ st => by cases st <;> rfl
theorem ss_expr (e : I) : SndS P B C j (.expr e) where
  s := fun {c Z X st} F hp h => by
    cases st <;> try exact Bool.noConfusion (show false = true from h)
    rename_i v pos
    simp only [mS, Bool.and_eq_true] at h
    exact s_expr ((snd_all e).e F h.2).1 (swap_ok h.1 _ _ _)
  ss := no_ss fun _ st => by cases st <;> rfl
theorem ss_ret (e : I) : SndS P B C j (.ret e) where
  s := fun {c Z X st} F hp h => by
    cases st <;> try exact Bool.noConfusion (show false = true from h)
    rename_i v pos
    cases v with
    | none => exact Bool.noConfusion (show false = true from h)
    | some v => exact s_ret ((snd_all e).e F (show mE P c e v = true from h)).1
  ss := no_ss fun _ st => by cases st <;> rfl
theorem ss_retO (i : Nat) : SndS P B C j (.retO i) where
  s := fun {c Z X st} F hp h => by
    cases st <;> try exact Bool.noConfusion (show false = true from h)
    rename_i v pos
    cases v with
    | none => exact Bool.noConfusion (show false = true from h)
    | some v =>
      cases v <;> try exact Bool.noConfusion (show false = true from h)
      rename_i x p
      obtain ⟨a1, a2, a3, a4⟩ := F.vis (show visN c i x = true from h)
      exact s_retO F.ok a1 a2 a3 a4
  ss := no_ss fun _ st => by cases st <;> rfl
theorem ss_ife (e : I) {a b : T} (ha : SndS P B C j a) (hb : SndS P B C j b) : SndS P B C j (.ife e a b) where
  s := fun {c Z X st} F hp h => by
    cases st <;> try exact Bool.noConfusion (show false = true from h)
    rename_i t body orelse pos
    simp only [mS, Bool.and_eq_true] at h
    obtain ⟨⟨h1, h2⟩, h3⟩ := h
    exact s_if ((snd_all e).e F h1).2 (ha.ss F hp h2) (hb.ss F hp h3)
  ss := no_ss fun _ st => by cases st <;> rfl
theorem ss_for (tg : Tg) (it : I) {b : T} (hb : SndS P B C j b) : SndS P B C j (.for tg it b) where
  s := fun {c Z X st} F hp h => by
    cases st <;> try exact Bool.noConfusion (show false = true from h)
    rename_i t iter body orelse pos
    cases orelse with
    | cons _ _ => exact Bool.noConfusion (show false = true from h)
    | nil =>
      simp only [mS, Bool.and_eq_true] at h
      obtain ⟨⟨⟨h1, h2⟩, h3⟩, h4⟩ := h
      exact s_for F.ok hp ((snd_all it).w F h2) (mT_ok F h3) (hb.ss F hp h4) (fold_ok h1 _)
  ss := no_ss fun _ st => by cases st <;> rfl
theorem ss_whl (e : I) {b : T} (hb : SndS P B C j b) : SndS P B C j (.whl e b) where
  s := fun {c Z X st} F hp h => by
    cases st <;> try exact Bool.noConfusion (show false = true from h)
    rename_i t body orelse pos
    cases orelse with
    | cons _ _ => exact Bool.noConfusion (show false = true from h)
    | nil =>
      simp only [mS, Bool.and_eq_true] at h
      exact s_while F.ok hp ((snd_all e).e F h.1).2 (hb.ss F hp h.2) turnsMost
  ss := no_ss fun _ st => by cases st <;> rfl
end
end RB

set_option Elab.async false
set_option linter.all false
set_option maxRecDepth 100000
set_option maxHeartbeats 4000000
set_option autoImplicit false
/-! The matcher is right: the last statements; every statement. -/
namespace RB
open PySem PySem.Spec PyProof.Rows L2

section
variable {P : PC} {B : Base} {C : Calls} {j : Nat}
theorem ss_asgC (i : Nat) (e : I) : SndS P B C j (.asgC i e) where
  s := fun {c Z X st} F hp h => by
    cases e <;> try (exfalso; cases st <;> exact Bool.noConfusion (show false = true from h))
    case cmp0 e tg it =>
      cases st <;> try exact Bool.noConfusion (show false = true from h)
      rename_i ts v pos
      match ts, h with
      | [t], h =>
        cases t <;> try exact Bool.noConfusion (show false = true from h)
        rename_i x p
        cases v <;> try exact Bool.noConfusion (show false = true from h)
        rename_i elt gs scope vp _
        match gs, h with
        | [⟨t, iter, [], k⟩], h =>
          simp only [mS, mE, Bool.and_eq_true, beq_iff_eq, Bool.not_eq_true'] at h
          obtain ⟨⟨⟨h1, h2⟩, h3⟩, ⟨⟨⟨⟨rfl, k2⟩, k3⟩, k4⟩, k5⟩, k6⟩ := h
          obtain ⟨a1, a2, a3⟩ := F.loc h1
          have bk := blkOk_by k3
          have hk := bk.kind
          rw [← F.N, ← F.sc] at bk
          have hl : X.env.scope.names.lookup x = some .local := by
            rw [F.sc]
            unfold compSwap at h3
            simp only [Bool.and_eq_true, beq_iff_eq] at h3
            exact h3.1.1
          exact s_asgC F.ok bk (ownT_ok k4) ((snd_all it).w F k5) (fun s H Cc cl fp => mT_ok (F.blk hk s H Cc cl fp) k4) (fun s H Cc cl fp => pts_true) (fun s H Cc cl fp => ((snd_all e).e (F.blk hk s H Cc cl fp) k6).1) (fold_ok k2 X.env) a1 hl (by rw [compSwap_ok F.kd, F.sc, h3]) (not_own F h2)
        | [], h => exact Bool.noConfusion (show false = true from h)
        | [⟨_, _, _ :: _, _⟩], h => exact Bool.noConfusion (show false = true from h)
        | ⟨_, _, [], _⟩ :: _ :: _, h => exact Bool.noConfusion (show false = true from h)
        | ⟨_, _, _ :: _, _⟩ :: _ :: _, h => exact Bool.noConfusion (show false = true from h)
      | [], h => exact Bool.noConfusion (show false = true from h)
      | t :: _ :: _, h => cases t <;> exact Bool.noConfusion (show false = true from h)
    case cmp1 e tg it d =>
      cases st <;> try exact Bool.noConfusion (show false = true from h)
      rename_i ts v pos
      match ts, h with
      | [t], h =>
        cases t <;> try exact Bool.noConfusion (show false = true from h)
        rename_i x p
        cases v <;> try exact Bool.noConfusion (show false = true from h)
        rename_i elt gs scope vp _
        match gs, h with
        | [⟨t, iter, [g], k⟩], h =>
          simp only [mS, mE, Bool.and_eq_true, beq_iff_eq, Bool.not_eq_true'] at h
          obtain ⟨⟨⟨h1, h2⟩, h3⟩, ⟨⟨⟨⟨⟨rfl, k2⟩, k3⟩, k4⟩, k5⟩, k6⟩, k7⟩ := h
          obtain ⟨a1, a2, a3⟩ := F.loc h1
          have bk := blkOk_by k3
          have hk := bk.kind
          rw [← F.N, ← F.sc] at bk
          have hl : X.env.scope.names.lookup x = some .local := by
            rw [F.sc]
            unfold compSwap at h3
            simp only [Bool.and_eq_true, beq_iff_eq] at h3
            exact h3.1.1
          exact s_asgC F.ok bk (ownT_ok k4) ((snd_all it).w F k5) (fun s H Cc cl fp => mT_ok (F.blk hk s H Cc cl fp) k4) (fun s H Cc cl fp => pts_one ((snd_all d).e (F.blk hk s H Cc cl fp) k6).2) (fun s H Cc cl fp => ((snd_all e).e (F.blk hk s H Cc cl fp) k7).1) (fold_ok k2 X.env) a1 hl (by rw [compSwap_ok F.kd, F.sc, h3]) (not_own F h2)
        | [], h => exact Bool.noConfusion (show false = true from h)
        | [⟨_, _, [], _⟩], h => exact Bool.noConfusion (show false = true from h)
        | [⟨_, _, _ :: _ :: _, _⟩], h => exact Bool.noConfusion (show false = true from h)
        | ⟨_, _, [], _⟩ :: _ :: _, h => exact Bool.noConfusion (show false = true from h)
        | ⟨_, _, [_], _⟩ :: _ :: _, h => exact Bool.noConfusion (show false = true from h)
        | ⟨_, _, _ :: _ :: _, _⟩ :: _ :: _, h => exact Bool.noConfusion (show false = true from h)
      | [], h => exact Bool.noConfusion (show false = true from h)
      | t :: _ :: _, h => cases t <;> exact Bool.noConfusion (show false = true from h)
  ss := no_ss fun _ st => by cases st <;> rfl
theorem ss_setS (a k e : I) : SndS P B C j (.setS a k e) where
  s := fun {c Z X st} F hp h => by
    cases st <;> try exact Bool.noConfusion (show false = true from h)
    rename_i ts v pos
    match ts, h with
    | [t], h =>
      cases t <;> try exact Bool.noConfusion (show false = true from h)
      rename_i o s p2
      simp only [mS, Bool.and_eq_true] at h
      obtain ⟨⟨⟨⟨h1, h2⟩, h3⟩, h4⟩, h5⟩ := h
      exact s_setS F.ok ((snd_all e).e F h3).1 ((snd_all a).e F h4).1 ((snd_all k).e F h5).1 (sole_ok h2 _ _ _) (swapN_ok F.kd rfl) rfl (fun _ => by cases s <;> first | rfl | exact Bool.noConfusion (show false = true from h1))
    | [], h => exact Bool.noConfusion (show false = true from h)
    | t :: _ :: _, h => cases t <;> exact Bool.noConfusion (show false = true from h)
  ss := no_ss fun _ st => by cases st <;> rfl
theorem ss_app (i : Nat) (e : I) : SndS P B C j (.app i e) where
  s := fun {c Z X st} F hp h => by
    cases st <;> try exact Bool.noConfusion (show false = true from h)
    rename_i v pos
    cases v <;> try exact Bool.noConfusion (show false = true from h)
    rename_i f es ks cpos
    cases f <;> try exact Bool.noConfusion (show false = true from h)
    rename_i o y apos
    cases o <;> try exact Bool.noConfusion (show false = true from h)
    rename_i x px
    match es, ks, h with
    | [v], [], h =>
      simp only [mS, Bool.and_eq_true, beq_iff_eq] at h
      obtain ⟨⟨⟨⟨⟨rfl, h1⟩, h2⟩, h3⟩, h4⟩, h5⟩ := h
      obtain ⟨a1, a2, a3, a4⟩ := F.vis h1
      exact s_app F.ok a1 a2 a3 a4 ((snd_all e).e F h5).1 (is_own F h2) (beq_iff_eq.mpr h3) (star_ok h4 _ _) rfl
    | [], _, h => exact Bool.noConfusion (show false = true from h)
    | [_], _ :: _, h => exact Bool.noConfusion (show false = true from h)
    | _ :: _ :: _, _, h => exact Bool.noConfusion (show false = true from h)
  ss := no_ss fun _ st => by cases st <;> rfl
theorem ss_par (is : List Nat) (as : I) : SndS P B C j (.par is as) where
  s := fun {c Z X st} F hp h => by
    cases st <;> try (exfalso; match is, h with
      | [], h => exact Bool.noConfusion (show false = true from h)
      | [_], h => exact Bool.noConfusion (show false = true from h)
      | [_, _], h => exact Bool.noConfusion (show false = true from h)
      | [_, _, _], h => exact Bool.noConfusion (show false = true from h)
      | _ :: _ :: _ :: _ :: _, h => exact Bool.noConfusion (show false = true from h))
    rename_i ts v pos
    unfold mS at h
    split at h <;> try (exact Bool.noConfusion h)
    all_goals try contradiction
    · rename_i e1 e2
      cases e1
      cases e2
      simp only [Bool.and_eq_true, bne_iff_ne, decide_eq_true_eq] at h
      obtain ⟨⟨⟨⟨h1, h2⟩, h3⟩, hw⟩, h4⟩ := h
      obtain ⟨a1, a2, a3⟩ := F.par h1
      obtain ⟨b1, b2, b3⟩ := F.par h2
      exact s_par2 F.ok a1 b1 h3 a2 b2 a3 b3 ((snd_all as).s F h4) (swapB_ok F.kd (by rw [F.sc]; exact hw)) (sole_ok rfl _ _ _)
    · rename_i e1 e2
      cases e1
      cases e2
      simp only [Bool.and_eq_true, bne_iff_ne, decide_eq_true_eq] at h
      obtain ⟨⟨⟨⟨⟨⟨⟨h1, h2⟩, h3⟩, h5⟩, h6⟩, h7⟩, hw⟩, h4⟩ := h
      obtain ⟨a1, a2, a3⟩ := F.par h1
      obtain ⟨b1, b2, b3⟩ := F.par h2
      obtain ⟨c1, c2, c3⟩ := F.par h3
      exact s_par3 F.ok a1 b1 c1 h5 h6 h7 a2 b2 c2 a3 b3 c3 ((snd_all as).s F h4) (swapB_ok F.kd (by rw [F.sc]; exact hw)) (sole_ok rfl _ _ _)
  ss := no_ss fun _ st => by cases st <;> rfl
theorem ss_rse (k : Nat) (as : I) : SndS P B C j (.rse k as) where
  s := fun {c Z X st} F hp h => by
    cases st <;> try exact Bool.noConfusion (show false = true from h)
    rename_i ex ca pos
    cases ex with
    | none => exact Bool.noConfusion (show false = true from h)
    | some ex =>
      cases ex <;> try (simp [mS] at h; done)
      rename_i f es ks cpos
      cases f <;> try (simp [mS] at h; done)
      rename_i x px
      match es, ks, ca, h with
      | e :: es, [], none, h =>
        simp only [mS, Bool.and_eq_true, beq_iff_eq, Bool.not_eq_true', decide_eq_true_eq] at h
        obtain ⟨⟨⟨⟨⟨h1, h2⟩, h3⟩, h4⟩, h5⟩, h6⟩ := h
        obtain ⟨Ce, fI, fd, qs, ps, e1, e2, e3, e4, e5, e6, e7, e8, e9⟩ := F.exs x k _ h1
        simp only [List.all_cons, Bool.and_eq_true] at h5
        exact s_rse F.ok F.tk e3 e4 e5 e6 (F.room.mono (by omega)) e7 (F.gl h2) e8 ((snd_all as).s F h6) (fun ρ S ds S' e => by rw [evs_len as e]; exact e1.symm) (by omega) e9 h3 (star_ok h5.1 _ _) (back_ok h5.2 _ _)
      | [], _, _, h => simp [mS] at h
      | _ :: _, _ :: _, _, h => simp [mS] at h
      | _ :: _, [], some _, h => simp [mS] at h
  ss := no_ss fun _ st => by cases st <;> rfl
theorem mLams_ok {c : SC} {Z : Fm} {X : Cx} (F : XF P B C j c Z X) : ∀ {e : I} {es : List Expr}, mLams P c e es = true → ∃ Ls, LamsM P c X e Ls ∧ LamEs X es Ls := by
  intro e
  induction e with
  | nil =>
    intro es h
    cases es with
    | nil => exact ⟨[], rfl, rfl⟩
    | cons _ _ => exact Bool.noConfusion (show false = true from h)
  | cons a as _ ih =>
    intro es h
    cases es with
    | nil => exact Bool.noConfusion (show false = true from h)
    | cons e es =>
      cases e <;> try exact Bool.noConfusion (show false = true from h)
      rename_i params body scope lpos
      simp only [mLams, Bool.and_eq_true] at h
      obtain ⟨⟨h1, h2⟩, h3⟩ := h
      obtain ⟨Ls, q1, q2⟩ := ih h3
      exact ⟨lfOf X params body scope :: Ls, ⟨params, body, scope, Ls, rfl, h1, h2, q1⟩, Ls, rfl, lamLook_ok F h1, q2⟩
  | _ => intro es h; cases es <;> exact Bool.noConfusion (show false = true from h)
theorem ss_lams (i l : Nat) : SndS P B C j (.lams i l) where
  s := fun {c Z X st} F hp h => by
    cases st <;> try exact Bool.noConfusion (show false = true from h)
    rename_i ts v pos
    match ts, h with
    | [t], h =>
      cases t <;> try exact Bool.noConfusion (show false = true from h)
      cases v <;> try exact Bool.noConfusion (show false = true from h)
      rename_i x px es p2
      simp only [mS, Bool.and_eq_true, decide_eq_true_eq] at h
      obtain ⟨⟨⟨⟨h1, h2⟩, h3⟩, h4⟩, h5⟩ := h
      obtain ⟨a1, a2, a3⟩ := F.loc h2
      cases hl : c.lams[l]? with
      | none => rw [hl] at h5; cases h5
      | some e =>
        rw [hl] at h5
        obtain ⟨Ls, q1, q2⟩ := mLams_ok F h5
        exact s_lams F.ok (F.mkf h1).1 a1 a2 q2 h4 (F.lfi h1 l e Ls hl q1) a3 (is_own F h3)
    | [], h => exact Bool.noConfusion (show false = true from h)
    | t :: _ :: _, h => cases t <;> exact Bool.noConfusion (show false = true from h)
  ss := no_ss fun _ st => by cases st <;> rfl
theorem ss_no {t : T} (h1 : ∀ c st, mS P c t st = false) (h2 : ∀ c st, mSs P c t st = false) : SndS P B C j t := ⟨no_st h1, no_ss h2⟩
theorem ss_all (t : T) : SndS P B C j t := by
  induction t with
  | skip => exact ss_skip
  | seq a b ha hb => exact ss_seq ha hb
  | asg i e => exact ss_asg i e
  | asgC i e => exact ss_asgC i e
  | asgT tg e => exact ss_asgT tg e
  | par is as => exact ss_par is as
  | aug i o e => exact ss_aug i o e
  | own i as => exact ss_own i as
  | app i e => exact ss_app i e
  | sto i as => exact ss_sto i as
  | setS a k e => exact ss_setS a k e
  | expr e => exact ss_expr e
  | ife e a b ha hb => exact ss_ife e ha hb
  | «for» tg it b hb => exact ss_for tg it hb
  | whl e b hb => exact ss_whl e hb
  | ret e => exact ss_ret e
  | retO i => exact ss_retO i
  | rse k as => exact ss_rse k as
  | lams i l => exact ss_lams i l
  | _ => exact ss_no (fun _ st => by cases st <;> rfl) (fun _ st => by cases st <;> rfl)
end
end RB

set_option Elab.async false
set_option linter.all false
set_option maxRecDepth 100000
set_option maxHeartbeats 4000000
set_option autoImplicit false
/-! The defs of a program: each keeps its plain meaning, by induction over the levels of calls. -/
namespace RB
open PySem PySem.Spec PyProof.Rows L2

/-! ### the table of the defs -/
structure DefX where
  x : Str
  as : List Arg
  kwd : List (Option Expr)
  bd : List Stmt
  sc : Scope
  N : List Str
  O : List Nat
  fn : Fn
  mkl : Bool
abbrev DefX.ps (d : DefX) : List Str := d.as.map (·.arg)
def fnScB (N ps : List Str) (sc : Scope) : Bool :=
  decide (sc.kind = .function) && !sc.isCoroutine && !sc.isGenerator && decide N.Nodup && decide (N.take ps.length = ps) && (ps.all fun x => sc.names.lookup x == some .local || sc.names.lookup x == some .cell) && sc.names.all fun y => !decide (y.2 = .free)
theorem fnSc_ok {N ps : List Str} {sc : Scope} (h : fnScB N ps sc = true) : FnScope N ps sc := by
  unfold fnScB at h
  simp only [Bool.and_eq_true, Bool.or_eq_true, Bool.not_eq_true', decide_eq_true_eq, decide_eq_false_iff_not, List.all_eq_true, beq_iff_eq] at h
  obtain ⟨⟨⟨⟨⟨⟨h1, h2⟩, h3⟩, h4⟩, h5⟩, h6⟩, h7⟩ := h
  exact ⟨h1, h2, h3, h4, h5, h6, h7⟩
def DefX.same (d : DefX) : Bool := match d.fn with
  | .same => true
  | _ => false
def pcOf (ds : List DefX) (glb : Str → Option Nat) (exc : Str → Option (Nat × Nat)) (tb : Bool) : PC := ⟨fun x => (ds.findIdx? fun d => d.x == x).bind fun i => ds[i]?.bind fun d => if d.mkl then none else some (i, d.as.length), glb, exc, tb, fun i => (ds[i]?.map (·.same)).getD false⟩
def DefX.lams (d : DefX) : List I := match d.fn with
  | .code _ _ lams _ => lams
  | .same => []
def scOf (d : DefX) : SC := ⟨d.N, d.sc, fun _ => true, d.O, 2, d.mkl, d.lams⟩
def okDef (P : PC) (d : DefX) : Bool := match d.fn with
  | .code np n lams body => fnScB d.N d.ps d.sc && decide (d.ps.Nodup) && decide (d.N.length = n) && decide (d.as.length = np) && decide (np ≤ n) && (d.O.all fun i => decide (np ≤ i)) && (lams.all fun e => decide (lenI e ≤ LIM)) && mSs P (scOf d) body d.bd
  | .same => true
/-- how many levels of frames so many levels of calls take -/
def lev (k : Nat) : Nat := 3 * k
section
variable {Pg : Program} {w : World} {K : PySem.W.Frag} {mg : Str → Option Value} {base : Heap} {G : Hd} {cx : Nat → List D → Wd → Value → Option Addr → Prop} {B : Base} {ds : List DefX} {glb : Str → Option Nat} {exc : Str → Option (Nat × Nat)} {tb : Bool}
/-- what the head tells of the defs and of the names -/
structure Told (Pg : Program) (w : World) (K : PySem.W.Frag) (mg : Str → Option Value) (base : Heap) (B : Base) (G : Hd) (cx : Nat → List D → Wd → Value → Option Addr → Prop) (ds : List DefX) (glb : Str → Option Nat) (exc : Str → Option (Nat × Nat)) (tb : Bool) : Prop where
  hK : G.K = K
  def_ : ∀ (i : Nat) (d : DefX), ds[i]? = some d → ∃ f fd, mg d.x = some (.ref f) ∧ FunD K d.x d.x ⟨[], d.as, none, [], d.kwd, none, []⟩ d.bd d.sc [] [] f fd
  bt : ∀ x ∈ blt, mg x = none
  glb : ∀ x i, glb x = some i → ∃ d v u, mg x = some u ∧ L2.RelV v u ∧ B.glb i = some d ∧ ∀ F M, RepV G F M d v
  exs : ∀ x k n, exc x = some (k, n) → ∃ (Ce fI : Addr) (fd : FuncData) (ps : List Str), ps.length = n ∧ mg x = some (.ref Ce) ∧ InitF Pg K mg Ce fI fd ps ∧ PySem.W.findIn K (.ref Ce) "__init__" = some (some (.ref fI)) ∧ PySem.W.typeIn K (.ref fI) = some (.type "function") ∧
    ∀ (w : Wd) (d : Addr) (vs : List D) (us : List V), w.F d = some (.xd (ps.zip us).reverse) → RepL G w.F w.M vs us → vs.length = ps.length → cx k vs w (.ref Ce) (some d)
  tld : tb = true → ToldF Pg w K mg base G cx B
  mkf : ∀ (i : Nat) (d : DefX) (f : Addr) (fd : FuncData), ds[i]? = some d → d.mkl = true → mg d.x = some (.ref f) → FunD K d.x d.x ⟨[], d.as, none, [], d.kwd, none, []⟩ d.bd d.sc [] [] f fd → ∃ (c P : Addr) (nm : Nat → Nat → Str), LamX.TabB base mg c P ∧ fd.code = .ref c ∧ (P, nm) ∈ G.T ∧
    (∀ l k, nm l k = (envOfC d.x d.sc 0 f fd.code).qual ++ "<lambda>") ∧ ∀ p ∈ G.T, p.1 = P → p.2 = nm
theorem told_binds {ds : List DefX} (_ : Told Pg w K mg base B G cx ds glb exc tb) {d : DefX} {f : Addr} {fd : FuncData} (F : FunD K d.x d.x ⟨[], d.as, none, [], d.kwd, none, []⟩ d.bd d.sc [] [] f fd) (nd : d.ps.Nodup) : Binds K fd d.ps [] :=
  F.bindsN fun _ _ _ _ _ _ us hl => binds_plain nd hl
theorem pc_at {x : Str} {f n : Nat} (h : (pcOf ds glb exc tb).fnx x = some (f, n)) : ∃ d, d.x = x ∧ ds[f]? = some d ∧ d.mkl = false ∧ n = d.as.length := by
  unfold pcOf at h
  obtain ⟨i, e1, e2⟩ := Option.bind_eq_some_iff.mp h
  obtain ⟨d, e3, e4⟩ := Option.bind_eq_some_iff.mp e2
  split at e4
  · cases e4
  · rename_i hk
    cases e4
    obtain ⟨hl, hp, _⟩ := List.findIdx?_eq_some_iff_getElem.mp e1
    rw [List.getElem?_eq_getElem hl] at e3
    cases e3
    exact ⟨_, by simpa using hp, List.getElem?_eq_getElem hl, by simpa using hk, rfl⟩
theorem pc_sm {f : Nat} {d : DefX} (h : ds[f]? = some d) : (pcOf ds glb exc tb).sm f = d.same := by
  show (ds[f]?.map (·.same)).getD false = _
  rw [h]
  rfl
/-- what a def's body does, the calls of one level down keeping their promises -/
theorem body_ok {k : Nat} (Tl : Told Pg w K mg base B G cx ds glb exc tb)
    (ih : ∀ (i : Nat) (d : DefX) (f : Addr) (fd : FuncData), ds[i]? = some d → d.mkl = false → d.same = false → mg d.x = some (.ref f) → FunD K d.x d.x ⟨[], d.as, none, [], d.kwd, none, []⟩ d.bd d.sc [] [] f fd →
      Binds K fd d.ps [] ∧ FnOk Pg w K mg base (L2.CX Pg w) (lev k) f fd d.ps (spG G cx d.as.length (run ⟨B, ds.map (·.fn)⟩ k i)))
    {i : Nat} {d : DefX} {f : Addr} {fd : FuncData} (hd : ds[i]? = some d) (hm : mg d.x = some (.ref f)) (F : FunD K d.x d.x ⟨[], d.as, none, [], d.kwd, none, []⟩ d.bd d.sc [] [] f fd) {np n : Nat} {lams : List I} {body : T} (e : d.fn = .code np n lams body)
    (S : FnScope d.N d.ps d.sc) (h8 : ∀ e ∈ lams, lenI e ≤ LIM) (h7 : mSs (pcOf ds glb exc tb) (scOf d) body d.bd = true) {A : Around}
    (hsm : d.mkl = true → ∀ x f' n', (pcOf ds glb exc tb).fnx x = some (f', n') → (pcOf ds glb exc tb).sm f' = true → ∀ env, ∃ a fd ps, mg x = some (.ref a) ∧ PySem.W.keepIn K (.ref a) = true ∧ Binds K fd ps [] ∧ FnAt Pg w K mg base (L2.CX Pg w) (A.deeper env) (lev k) a fd ps (spG G cx n' (run ⟨B, ds.map (·.fn)⟩ k f')))
    (outer : List PySem.Env) (s : Shared) (H : Hp) (E : XK) (w0 : Wd) (hr : Room (lev k + 2) (A.deeper (envOfC d.x d.sc s.heap.objs.size f fd.code))) :
    PSs (cxOf (L2.CX Pg w) Pg w K mg base d.N d.x d.sc f fd.code A outer s H E) d.bd (tS (fmOf G d.O cx w0 E fun Ls Ls' => ∃ es, lams[Ls]? = some es ∧ LamsM (pcOf ds glb exc tb) (scOf d) (cxOf (L2.CX Pg w) Pg w K mg base d.N d.x d.sc f fd.code A outer s H E) es Ls') (ex (callsIn B lams (run ⟨B, ds.map (·.fn)⟩ k)) B body)) := by
  have XF0 : XF (pcOf ds glb exc tb) B (callsIn B lams (run ⟨B, ds.map (·.fn)⟩ k)) (lev k) { scOf d with mkl := false } (fmOf G d.O cx w0 E fun Ls Ls' => ∃ es, lams[Ls]? = some es ∧ LamsM (pcOf ds glb exc tb) (scOf d) (cxOf (L2.CX Pg w) Pg w K mg base d.N d.x d.sc f fd.code A outer s H E) es Ls') (cxOf (L2.CX Pg w) Pg w K mg base d.N d.x d.sc f fd.code A outer s H E) := by
    refine ⟨⟨Tl.hK.symm, rfl, ?_, S.nd⟩, rfl, rfl, rfl, rfl, S.kind, hr, L2.takes_of rfl rfl rfl rfl, Tl.bt, Tl.glb, fun x f' n' hx hs => ?_, fun z => Bool.noConfusion (show false = true from z), fun x f' n' hx => ?_, Tl.tld, fun z => Bool.noConfusion (show false = true from z), fun z => Bool.noConfusion (show false = true from z), fun z => Bool.noConfusion (show false = true from z), fun z => Bool.noConfusion (show false = true from z)⟩
    · have := hr.un
      show (A.deeper _).units + 65 < cLine
      omega
    · obtain ⟨d', e1, e3, hk', rfl⟩ := pc_at hx
      have hs' : d'.same = false := by rw [pc_sm e3] at hs; exact hs
      obtain ⟨ad, fd', m1, m2⟩ := Tl.def_ f' d' e3
      obtain ⟨b1, o1⟩ := ih f' d' ad fd' e3 hk' hs' m1 m2
      refine ⟨ad, fd', d'.ps, by rw [← e1]; exact m1, m2.kp, b1, o1⟩
    · obtain ⟨Ce, fI, fd2, ps, q1, q2, q3, q4, q5, q6⟩ := Tl.exs _ _ _ (show exc _ = some _ from hx)
      obtain ⟨o1, b1⟩ := init_ok (w := w) (base := base) q3 rfl
      exact ⟨Ce, fI, fd2, _, ps, q1, by have := q3.len.2; omega, q3.oex, q4, q5, o1, b1, q2, q6⟩
  have hlams : (scOf d).lams = lams := by
    show d.lams = lams
    unfold DefX.lams
    rw [e]
  have lamR : ∀ (es : I) (Ls : List LF), LamsM (pcOf ds glb exc tb) (scOf d) (cxOf (L2.CX Pg w) Pg w K mg base d.N d.x d.sc f fd.code A outer s H E) es Ls →
      LamsR (fmOf G d.O cx w0 E fun Ls Ls' => ∃ es, lams[Ls]? = some es ∧ LamsM (pcOf ds glb exc tb) (scOf d) (cxOf (L2.CX Pg w) Pg w K mg base d.N d.x d.sc f fd.code A outer s H E) es Ls') (cxOf (L2.CX Pg w) Pg w K mg base d.N d.x d.sc f fd.code A outer s H E) B ⟨run ⟨B, ds.map (·.fn)⟩ k, fun _ _ _ => .no⟩ (lev k) es Ls ∧ Ls.length = lenI es := by
    intro es
    induction es with
    | nil => exact fun Ls h => ⟨h, by rw [show Ls = [] from h]; rfl⟩
    | cons a as _ ih =>
      intro Ls h
      obtain ⟨params, body, scope, r, rfl, g1, g2, g3⟩ := h
      obtain ⟨q1, q2⟩ := ih r g3
      exact ⟨⟨_, r, rfl, ⟨params, body, scope, rfl, lamLook_ok XF0 g1, fun c f A outer s H E hr => ((snd_all a).e (XF0.lam (C' := ⟨run ⟨B, ds.map (·.fn)⟩ k, fun _ _ _ => .no⟩) rfl g1 hr) g2).1⟩, q1⟩, by rw [List.length_cons, q2]; rfl⟩
    | _ => intro Ls h; exact h.elim
  have XFo : XF (pcOf ds glb exc tb) B (callsIn B lams (run ⟨B, ds.map (·.fn)⟩ k)) (lev k) (scOf d) (fmOf G d.O cx w0 E fun Ls Ls' => ∃ es, lams[Ls]? = some es ∧ LamsM (pcOf ds glb exc tb) (scOf d) (cxOf (L2.CX Pg w) Pg w K mg base d.N d.x d.sc f fd.code A outer s H E) es Ls') (cxOf (L2.CX Pg w) Pg w K mg base d.N d.x d.sc f fd.code A outer s H E) := by
    refine ⟨XF0.ok, XF0.N, XF0.sc, XF0.fn, XF0.O, XF0.kind, XF0.room, XF0.tk, XF0.bt, XF0.glb, XF0.fns, fun z x f' n' hx hs => ?_, XF0.exs, XF0.tld, fun z => ⟨?_, rfl⟩, fun z l es hl => ?_, fun z l es Ls hl hM => ?_, fun z l es Ls hl hL => ?_⟩
    · exact hsm z x f' n' hx hs _
    · obtain ⟨c, P, nm, q1, q2, q3, q4, q5⟩ := Tl.mkf i d f fd hd z hm F
      exact ⟨c, P, nm, q1, q2, q3, q4, q5⟩
    · rw [hlams] at hl
      funext ρ S
      unfold callsIn
      dsimp only
      rw [hl]
    · rw [hlams] at hl
      exact ⟨es, hl, hM⟩
    · rw [hlams] at hl
      obtain ⟨es', h1, h2⟩ := hL
      rw [hl] at h1
      cases h1
      obtain ⟨q1, q2⟩ := lamR es Ls h2
      refine ⟨q1, ?_⟩
      rw [q2]
      exact h8 es (List.mem_of_getElem? hl)
  exact (ss_all body).ss XFo (L2.passes_of rfl) h7
theorem run_def {k i : Nat} {d : DefX} {np n : Nat} {lams : List I} {body : T} (hd : ds[i]? = some d) (e : d.fn = .code np n lams body) {es : List D} {S : Store} (hl : es.length = np) :
    run ⟨B, ds.map (·.fn)⟩ (k + 1) i es S = endOf (ex (callsIn B lams (run ⟨B, ds.map (·.fn)⟩ k)) B body (startEnv n es) S) := by
  have hfn : (ds.map (·.fn))[i]? = some d.fn := by rw [List.getElem?_map, hd]; rfl
  show callFn ⟨B, ds.map (·.fn)⟩ _ i es S = _
  unfold callFn
  rw [hfn, e]
  exact if_pos hl
/-- EACH DEF KEEPS ITS PLAIN MEANING -/
theorem fns_ok (Tl : Told Pg w K mg base B G cx ds glb exc tb) (hok : ∀ d ∈ ds, okDef (pcOf ds glb exc tb) d = true) :
    ∀ (k i : Nat) (d : DefX) (f : Addr) (fd : FuncData), ds[i]? = some d → d.mkl = false → d.same = false → mg d.x = some (.ref f) → FunD K d.x d.x ⟨[], d.as, none, [], d.kwd, none, []⟩ d.bd d.sc [] [] f fd →
      Binds K fd d.ps [] ∧ FnOk Pg w K mg base (L2.CX Pg w) (lev k) f fd d.ps (spG G cx d.as.length (run ⟨B, ds.map (·.fn)⟩ k i)) := by
  intro k
  induction k with
  | zero =>
    intro i d f fd hd _ hs hm F
    have hk := hok d (List.mem_of_getElem? hd)
    refine ⟨?_, ⟨spG_len (by simp [DefX.ps]), fun A outer s H args us vs Q E _ _ _ _ h => ?_⟩⟩
    · cases e : d.fn with
      | code np n lams body =>
        unfold okDef at hk
        rw [e] at hk
        simp only [Bool.and_eq_true, decide_eq_true_eq] at hk
        exact told_binds Tl F hk.1.1.1.1.1.1.2
      | same => unfold DefX.same at hs; rw [e] at hs; cases hs
    · obtain ⟨w0, es, _, _, _, _, p⟩ := h
      exact p.elim
  | succ k ih =>
    intro i d f fd hd hmk hs hm F
    have hk := hok d (List.mem_of_getElem? hd)
    cases e : d.fn with
    | same => unfold DefX.same at hs; rw [e] at hs; cases hs
    | code np n lams body =>
      unfold okDef at hk
      rw [e] at hk
      simp only [Bool.and_eq_true, decide_eq_true_eq, List.all_eq_true] at hk
      obtain ⟨⟨⟨⟨⟨⟨⟨h1, h2⟩, h3⟩, h4⟩, h5⟩, h6⟩, h8⟩, h7⟩ := hk
      refine ⟨told_binds Tl F h2, ?_⟩
      have S := fnSc_ok h1
      have main := def_ok (P := Pg) (w := w) (mg := mg) (base := base) (cx := cx) (k := lev k + 2) (n := n) (np := np) (G := G) (O := d.O) (g := ex (callsIn B lams (run ⟨B, ds.map (·.fn)⟩ k)) B body) (lf := fun X l Ls => ∃ es, lams[l]? = some es ∧ LamsM (pcOf ds glb exc tb) (scOf d) X es Ls) F S h3 (by simpa [DefX.ps] using h4) h5 h6 fun A outer s H Q E w0 hr hw =>
        body_ok Tl ih hd hm F e S h8 h7 (fun z => by rw [hmk] at z; cases z) outer s H E w0 hr
      refine (main.mono (by unfold lev; omega)).imp fun vs H Q E h => ?_
      obtain ⟨w0, es, e1, e2, e3, e4, p⟩ := h
      refine ⟨w0, es, e1, e2, e3, e4.trans h4, ?_⟩
      rw [run_def hd e (e4.trans h4)] at p
      exact p
/-- the law itself, no repr under way -/
theorem law_ok (Tl : Told Pg w K mg base B G cx ds glb exc tb) (hok : ∀ d ∈ ds, okDef (pcOf ds glb exc tb) d = true)
    (hsp : ∀ (A : Around), A.guards = some [] → ∀ (i : Nat) (d : DefX) (f : Addr) (fd : FuncData), ds[i]? = some d → d.same = true → mg d.x = some (.ref f) → FunD K d.x d.x ⟨[], d.as, none, [], d.kwd, none, []⟩ d.bd d.sc [] [] f fd →
      Binds K fd d.ps [] ∧ FnAt Pg w K mg base (L2.CX Pg w) A 3 f fd d.ps (spG G cx d.as.length sameF))
    {A : Around} (hA : A.guards = some []) (k : Nat) {i : Nat} {d : DefX} {f : Addr} {fd : FuncData} (hd : ds[i]? = some d) (hs : d.same = false) (hm : mg d.x = some (.ref f)) (F : FunD K d.x d.x ⟨[], d.as, none, [], d.kwd, none, []⟩ d.bd d.sc [] [] f fd) :
      FnAt Pg w K mg base (L2.CX Pg w) A (lev (k + 2)) f fd d.ps (spG G cx d.as.length (run ⟨B, ds.map (·.fn)⟩ (k + 2) i)) := by
  have hk := hok d (List.mem_of_getElem? hd)
  cases e : d.fn with
  | same => unfold DefX.same at hs; rw [e] at hs; cases hs
  | code np n lams body =>
    unfold okDef at hk
    rw [e] at hk
    simp only [Bool.and_eq_true, decide_eq_true_eq, List.all_eq_true] at hk
    obtain ⟨⟨⟨⟨⟨⟨⟨h1, h2⟩, h3⟩, h4⟩, h5⟩, h6⟩, h8⟩, h7⟩ := hk
    have S := fnSc_ok h1
    have main := def_okA (P := Pg) (w := w) (mg := mg) (base := base) (cx := cx) (A := A) (k := lev (k + 1) + 2) (n := n) (np := np) (G := G) (O := d.O) (g := ex (callsIn B lams (run ⟨B, ds.map (·.fn)⟩ (k + 1))) B body) (lf := fun X l Ls => ∃ es, lams[l]? = some es ∧ LamsM (pcOf ds glb exc tb) (scOf d) X es Ls) F S h3 (by simpa [DefX.ps] using h4) h5 h6 fun outer s H Q E w0 hr hw =>
      body_ok Tl (fns_ok Tl hok (k + 1)) hd hm F e S h8 h7 (fun z x f' n' hx hsm env => by
        obtain ⟨d', e1, e3, hk', rfl⟩ := pc_at hx
        rw [pc_sm e3] at hsm
        obtain ⟨ad, fd', m1, m2⟩ := Tl.def_ f' d' e3
        obtain ⟨b1, o1⟩ := hsp (A.deeper env) hA f' d' ad fd' e3 hsm m1 m2
        have er : ∀ es S, run ⟨B, ds.map (·.fn)⟩ (k + 1) f' es S = sameF es S := fun es S => by
          have hfn : (ds.map (·.fn))[f']? = some d'.fn := by rw [List.getElem?_map, e3]; rfl
          show callFn ⟨B, ds.map (·.fn)⟩ _ f' es S = _
          unfold callFn
          rw [hfn]
          cases e' : d'.fn with
          | same => rfl
          | code _ _ _ _ => unfold DefX.same at hsm; rw [e'] at hsm; cases hsm
        refine ⟨ad, fd', d'.ps, by rw [← e1]; exact m1, m2.kp, b1, o1.imp (by unfold lev; omega) fun vs H Q E h => ?_⟩
        obtain ⟨w0, es, e1, e2, e3, e4, p⟩ := h
        rw [er] at p
        exact ⟨w0, es, e1, e2, e3, e4, p⟩) outer s H E w0 hr
    refine main.imp (by unfold lev; omega) fun vs H Q E h => ?_
    obtain ⟨w0, es, e1, e2, e3, e4, p⟩ := h
    refine ⟨w0, es, e1, e2, e3, e4.trans h4, ?_⟩
    rw [run_def hd e (e4.trans h4)] at p
    exact p
end
end RB

set_option Elab.async false
set_option linter.all false
set_option maxRecDepth 100000
set_option maxHeartbeats 4000000
set_option autoImplicit false
/-! What the law makes of a refusal. -/
namespace RB
open PySem PySem.Spec PyProof.Rows L2

def refBody (p : Nat → Pos) : List Stmt := [ (Stmt.Assign (targets := [(Expr.Name "kinds" (p 1))]) (value := (Expr.List (elts := [ (Expr.Constant (Const.str "BadPart") 0 (p 2)), (Expr.Constant (Const.str "BadNumber") 0 (p 3)), (Expr.Constant (Const.str "Unknown") 0 (p 4)), (Expr.Constant (Const.str "BadBits") 0 (p 5)), (Expr.Constant (Const.str "BadChange") 0 (p 6)), (Expr.Constant (Const.str "BadText") 0 (p 7)), (Expr.Constant (Const.str "BadLine") 0 (p 8)), (Expr.Constant (Const.str "BadClaim") 0 (p 9)), (Expr.Constant (Const.str "NothingDone") 0 (p 10))]) (pos := (p 11)))) (pos := (p 12))), (Stmt.Assign (targets := [(Expr.Name "marks" (p 13))]) (value := (Expr.List (elts := [ (Expr.Call (func := (Expr.Name "isinstance" (p 14))) (args := [(Expr.Name "e" (p 15)), (Expr.Name "BadPart" (p 16))]) (keywords := []) (pos := (p 17))), (Expr.Call (func := (Expr.Name "isinstance" (p 18))) (args := [(Expr.Name "e" (p 19)), (Expr.Name "BadNumber" (p 20))]) (keywords := []) (pos := (p 21))), (Expr.Call (func := (Expr.Name "isinstance" (p 22))) (args := [(Expr.Name "e" (p 23)), (Expr.Name "Unknown" (p 24))]) (keywords := []) (pos := (p 25))), (Expr.Call (func := (Expr.Name "isinstance" (p 26))) (args := [(Expr.Name "e" (p 27)), (Expr.Name "BadBits" (p 28))]) (keywords := []) (pos := (p 29))), (Expr.Call (func := (Expr.Name "isinstance" (p 30))) (args := [(Expr.Name "e" (p 31)), (Expr.Name "BadChange" (p 32))]) (keywords := []) (pos := (p 33))), (Expr.Call (func := (Expr.Name "isinstance" (p 34))) (args := [(Expr.Name "e" (p 35)), (Expr.Name "BadText" (p 36))]) (keywords := []) (pos := (p 37))), (Expr.Call (func := (Expr.Name "isinstance" (p 38))) (args := [(Expr.Name "e" (p 39)), (Expr.Name "BadLine" (p 40))]) (keywords := []) (pos := (p 41))), (Expr.Call (func := (Expr.Name "isinstance" (p 42))) (args := [(Expr.Name "e" (p 43)), (Expr.Name "BadClaim" (p 44))]) (keywords := []) (pos := (p 45))), (Expr.Call (func := (Expr.Name "isinstance" (p 46))) (args := [(Expr.Name "e" (p 47)), (Expr.Name "NothingDone" (p 48))]) (keywords := []) (pos := (p 49)))]) (pos := (p 50)))) (pos := (p 51))), (Stmt.If (test := (Expr.BoolOp (op := BoolOp.Or) (values := [ (Expr.Compare (left := (Expr.Call (func := (Expr.Attribute (Expr.Name "marks" (p 52)) "count" (p 53))) (args := [(Expr.Constant (Const.bool true) 0 (p 54))]) (keywords := []) (pos := (p 55)))) (ops := [CmpOp.NotEq]) (comparators := [(Expr.Constant (Const.int 1) 0 (p 56))]) (pos := (p 57))), (Expr.UnaryOp (op := UnaryOp.Not) (operand := (Expr.Call (func := (Expr.Name "isinstance" (p 58))) (args := [(Expr.Name "e" (p 59)), (Expr.Name "ValueError" (p 60))]) (keywords := []) (pos := (p 61)))) (pos := (p 62)))]) (pos := (p 63)))) (body := [ (Stmt.Return (value := (some (Expr.Tuple [(Expr.Constant (Const.str "other") 0 (p 64))] 0 (p 65)))) (pos := (p 66)))]) (orelse := []) (pos := (p 67))), (Stmt.Assign (targets := [(Expr.Name "name" (p 68))]) (value := (Expr.Subscript (value := (Expr.Name "kinds" (p 69))) (slice := (Expr.Call (func := (Expr.Attribute (Expr.Name "marks" (p 70)) "index" (p 71))) (args := [(Expr.Constant (Const.bool true) 0 (p 72))]) (keywords := []) (pos := (p 73)))) (pos := (p 74)))) (pos := (p 75))), (Stmt.If (test := (Expr.Compare (left := (Expr.Name "name" (p 76))) (ops := [CmpOp.Eq]) (comparators := [(Expr.Constant (Const.str "BadPart") 0 (p 77))]) (pos := (p 78)))) (body := [ (Stmt.Return (value := (some (Expr.Tuple (elts := [ (Expr.Name "name" (p 79)), (Expr.Attribute (Expr.Name "e" (p 80)) "part" (p 81)), (Expr.Attribute (Expr.Name "e" (p 82)) "place" (p 83))]) (k := 0) (pos := (p 84))))) (pos := (p 85)))]) (orelse := []) (pos := (p 86))), (Stmt.If (test := (Expr.Compare (left := (Expr.Name "name" (p 87))) (ops := [CmpOp.Eq]) (comparators := [(Expr.Constant (Const.str "BadNumber") 0 (p 88))]) (pos := (p 89)))) (body := [ (Stmt.Return (value := (some (Expr.Tuple (elts := [ (Expr.Name "name" (p 90)), (Expr.Attribute (Expr.Name "e" (p 91)) "value" (p 92))]) (k := 0) (pos := (p 93))))) (pos := (p 94)))]) (orelse := []) (pos := (p 95))), (Stmt.If (test := (Expr.Compare (left := (Expr.Name "name" (p 96))) (ops := [CmpOp.Eq]) (comparators := [(Expr.Constant (Const.str "Unknown") 0 (p 97))]) (pos := (p 98)))) (body := [ (Stmt.Return (value := (some (Expr.Tuple (elts := [ (Expr.Name "name" (p 99)), (Expr.Attribute (Expr.Name "e" (p 100)) "name" (p 101))]) (k := 0) (pos := (p 102))))) (pos := (p 103)))]) (orelse := []) (pos := (p 104))), (Stmt.If (test := (Expr.Compare (left := (Expr.Name "name" (p 105))) (ops := [CmpOp.In]) (comparators := [ (Expr.Tuple (elts := [ (Expr.Constant (Const.str "BadText") 0 (p 106)), (Expr.Constant (Const.str "BadLine") 0 (p 107))]) (k := 0) (pos := (p 108)))]) (pos := (p 109)))) (body := [ (Stmt.Return (value := (some (Expr.Tuple (elts := [ (Expr.Name "name" (p 110)), (Expr.Attribute (Expr.Name "e" (p 111)) "line" (p 112))]) (k := 0) (pos := (p 113))))) (pos := (p 114)))]) (orelse := []) (pos := (p 115))), (Stmt.If (test := (Expr.Compare (left := (Expr.Name "name" (p 116))) (ops := [CmpOp.In]) (comparators := [ (Expr.Tuple (elts := [ (Expr.Constant (Const.str "BadClaim") 0 (p 117)), (Expr.Constant (Const.str "NothingDone") 0 (p 118))]) (k := 0) (pos := (p 119)))]) (pos := (p 120)))) (body := [ (Stmt.Return (value := (some (Expr.Tuple [(Expr.Name "name" (p 121))] 0 (p 122)))) (pos := (p 123)))]) (orelse := []) (pos := (p 124))), (Stmt.Return (value := (some (Expr.Tuple (elts := [ (Expr.Name "name" (p 125)), (Expr.Attribute (Expr.Name "e" (p 126)) "place" (p 127))]) (k := 0) (pos := (p 128))))) (pos := (p 129)))]
def refKinds : List Str := ["BadPart", "BadNumber", "Unknown", "BadBits", "BadChange", "BadText", "BadLine", "BadClaim", "NothingDone"]

/-! ### list.count, flat items -/
section
variable {X : Cx}
def rCntF (K : PySem.W.Frag) : V → List V → Hp → VK → Prop := fun x xs H Q => ∃ (a : Addr) (ys : List V) (y : V), x = V.ref a ∧ xs = [y] ∧ SqL K H a ys ∧ flatV y = true ∧ ys.all flatV = true ∧ Q (.int ((ys.countP fun z => eqV z y : Nat) : Int)) H
theorem eqU_count {y : V} : ∀ {ys : List V} {us : List Value}, Vals ys us → ys.all flatV = true → us.countP (eqU y) = ys.countP fun z => eqV z y
  | _, _, .nil, _ => rfl
  | _, _, .cons r t, f => by
    rw [List.all_cons, Bool.and_eq_true] at f
    rw [List.countP_cons, List.countP_cons, eqU_count t f.2, eqU_of r f.1]
theorem mt_countF : MtR X "list.count" (rCntF X.K) := by
  intro pins s σ H x xs v us Q I rx rxs h
  obtain ⟨a, ys, y, rfl, rfl, hs, fy, fys, q⟩ := h
  cases rx
  obtain ⟨uy, rfl, ry⟩ := rxs.one
  obtain ⟨its, rv, ⟨⟨cls, dd, data, sl⟩, n, ho, hc, hdn, hd⟩, hlen⟩ := I.list hs
  simp only at hc hd
  subst hc hd
  refine call_meets PySem.F.slot_list_count ⟨_, ho, rfl⟩ PySem.F.entry_list_count (PySem.F.args_list_count_2 _ _)
    (SeqAt.list_countAt a its.toArray n dd sl uy (eqU y)) ⟨ho, fun u hu => mem_eqAt ry fy rv fys u (by simpa using hu), ?_⟩
  have ec : its.toArray.toList.countP (eqU y) = ys.countP fun z => eqV z y := eqU_count rv fys
  refine ⟨.int ((ys.countP fun z => eqV z y : Nat) : Int), H, I.tok _, ⟨s.toks, ?_⟩, q⟩
  show Value.int ((its.toArray.toList.countP (eqU y) : Nat) : Int) s.toks = _
  rw [ec]
end

/-! ### what is known of the classes -/
structure RefE (K : PySem.W.Frag) (mg : Str → Option Value) (ex : Nat → Option (Addr × List Str)) (cs : Nat → Addr) : Prop where
  has : ∀ k D ps, ex k = some (D, ps) → (k = 1 ∧ ps = [("value" : Str)]) ∨ (k = 3 ∧ ps = [("place" : Str)])
  exc : ∀ k D ps, ex k = some (D, ps) → ExcC K D ∧ XfC K D
  no : ∀ k D ps, ex k = some (D, ps) → ∀ p ∈ ps, PySem.W.findIn K (.ref D) p = some none
  one : ∀ k D ps, ex k = some (D, ps) → ∀ i, i < 9 → PySem.W.kitOne K (.ref D) (.ref (cs i)) = some (i == k)
  val : ∀ k D ps, ex k = some (D, ps) → PySem.W.kitOne K (.ref D) (.type "ValueError") = some true
  glob : ∀ i x, refKinds[i]? = some x → mg x = some (.ref (cs i))
  mi : mg ("isinstance" : Str) = none
  mv : mg ("ValueError" : Str) = none
/-- what is known of the names of its block -/
def refNs : List (Str × NameKind) := [("e", .local), ("kinds", .local), ("marks", .local), ("name", .local), ("isinstance", .globalImplicit), ("ValueError", .globalImplicit), ("BadPart", .globalImplicit), ("BadNumber", .globalImplicit), ("Unknown", .globalImplicit), ("BadBits", .globalImplicit), ("BadChange", .globalImplicit), ("BadText", .globalImplicit), ("BadLine", .globalImplicit), ("BadClaim", .globalImplicit), ("NothingDone", .globalImplicit)]

section
variable {X : Cx} {q : Addr × Obj} {D dd : Addr}
def tIsP (q dd : Addr) (b : Bool) : TE := fun σ H Q => σ[0]? = some (some (.ref q)) ∧ (∃ fs, H dd = some (.xd fs)) ∧ Q (.bl b) H
theorem pe_isPc {x : Str} {c : V} {cv : Value} {b : Bool} {p1 p2 p3 p4 : Pos} (C : ExcC X.K D) (e : ErrP X.K q D dd) (hp : q ∈ X.pn) (hi : Gl X "isinstance") (hm : X.mg "isinstance" = none) (hN : X.N[0]? = some ("e" : Str)) (hv : Vis X.env.scope "e")
    (hc : PE X (.Name x p3) (tC c)) (hcv : ∀ u, RelV c u → u = cv) (hb : PySem.W.kitOne X.K (.ref D) cv = some b) : PE X (.Call (.Name "isinstance" p1) [.Name "e" p2, .Name x p3] [] p4) (tIsP q.1 dd b) := by
  refine PE.imp (pe_callB (isP_ok C e hp) hi hm rfl (pa_cons (pe_var hN hv) (pa_cons hc pa_nil))) fun σ H Q h => ?_
  obtain ⟨h0, ⟨fs, hf⟩, q⟩ := h
  exact ⟨_, h0, c, cv, b, fs, rfl, hcv, hb, hf, q⟩
end
abbrev refKV : List V := [.str "BadPart", .str "BadNumber", .str "Unknown", .str "BadBits", .str "BadChange", .str "BadText", .str "BadLine", .str "BadClaim", .str "NothingDone"]
abbrev refMV (k : Nat) : List V := [.bl (0 == k), .bl (1 == k), .bl (2 == k), .bl (3 == k), .bl (4 == k), .bl (5 == k), .bl (6 == k), .bl (7 == k), .bl (8 == k)]
theorem two_line : 2 ≤ sizeLine := by decide
theorem seq_set {te : TE} {i : Nat} {u : TS} {E : Ends} {σ : Sl} {H : Hp} (h : te σ H fun x H1 => u E (σ.set i (some x)) H1) : tSeq (tAsg te (gName i)) u E σ H := h
theorem ref_cnt1 : V.bl (!decide (V.int (((refMV 1).countP (fun z => eqV z (.bl true)) : Nat) : Int) = V.int 1)) = .bl false := by decide +kernel
theorem ref_cnt3 : V.bl (!decide (V.int (((refMV 3).countP (fun z => eqV z (.bl true)) : Nat) : Int) = V.int 1)) = .bl false := by decide +kernel
theorem ref_ix1 : ∀ (m : Nat) (z : V), m < 1 → (refMV 1)[m]? = some z → eqV z (.bl true) = false
  | 0, _, _, e => by cases e; rfl
theorem ref_ix3 : ∀ (m : Nat) (z : V), m < 3 → (refMV 3)[m]? = some z → eqV z (.bl true) = false
  | 0, _, _, e => by cases e; rfl
  | 1, _, _, e => by cases e; rfl
  | 2, _, _, e => by cases e; rfl
theorem ref_at1 : atI refKV ((1 : Nat) : Int) = some (.str "BadNumber") := rfl
theorem ref_at3 : atI refKV ((3 : Nat) : Int) = some (.str "BadBits") := rfl
theorem ref_ne11 : V.bl (decide (V.str "BadNumber" = V.str "BadPart")) = .bl false := by decide +kernel
theorem ref_ne12 : V.bl (decide (V.str "BadNumber" = V.str "BadNumber")) = .bl true := by decide +kernel
theorem ref_ne31 : V.bl (decide (V.str "BadBits" = V.str "BadPart")) = .bl false := by decide +kernel
theorem ref_ne32 : V.bl (decide (V.str "BadBits" = V.str "BadNumber")) = .bl false := by decide +kernel
theorem ref_ne33 : V.bl (decide (V.str "BadBits" = V.str "Unknown")) = .bl false := by decide +kernel
theorem ref_in31 : V.bl (if false = true then !inV (V.str "BadBits") [.str "BadText", .str "BadLine"] else inV (V.str "BadBits") [.str "BadText", .str "BadLine"]) = .bl false := by decide +kernel
theorem ref_in32 : V.bl (if false = true then !inV (V.str "BadBits") [.str "BadClaim", .str "NothingDone"] else inV (V.str "BadBits") [.str "BadClaim", .str "NothingDone"]) = .bl false := by decide +kernel
section
variable {X : Cx} {q : Addr × Obj} {D dd : Addr} {ex : Nat → Option (Addr × List Str)} {cs : Nat → Addr} {k : Nat} {ps : List Str}
theorem ref_body {p : Nat → Pos} (R : RefE X.K X.mg ex cs) (hk : ex k = some (D, ps)) (er : ErrP X.K q D dd) (hp : q ∈ X.pn) (hN : X.N = [("e" : Str), "kinds", "marks", "name"]) (hg : ∀ y ∈ refNs, X.env.scope.names.lookup y.1 = some y.2) (hkd : ∀ x, X.env.scope.names.lookup x = some .globalImplicit → Gl X x)
    (h53 : ((p 53).endLine == (p 55).line) = true) (h71 : ((p 71).endLine == (p 73).line) = true) :
    PSs X (refBody p) (fun E σ H => σ.length = 4 ∧ σ[0]? = some (some (.ref q.1)) ∧ ∃ (v : V), H dd = some (.xd [(ps.headD "", v)]) ∧ ∀ H', Sub H H' → ∀ r, H' r = none → E.rt (.ref r) (upd H' r (.tup [.str (refKinds.getD k ""), v]))) := by
  have L : ∀ {x : Str}, (x, NameKind.local) ∈ refNs → X.env.scope.names.lookup x = some .local := fun h => hg _ h
  have Gg : ∀ {x : Str}, (x, NameKind.globalImplicit) ∈ refNs → Gl X x := fun h => hkd _ (hg _ h)
  have n0 : X.N[0]? = some ("e" : Str) := by rw [hN] <;> rfl
  have n1 : X.N[1]? = some ("kinds" : Str) := by rw [hN] <;> rfl
  have n2 : X.N[2]? = some ("marks" : Str) := by rw [hN] <;> rfl
  have n3 : X.N[3]? = some ("name" : Str) := by rw [hN] <;> rfl
  have nd : X.N.Nodup := by rw [hN]; decide
  have ve : Vis X.env.scope "e" := .inl (L (by decide))
  have vk : Vis X.env.scope "kinds" := .inl (L (by decide))
  have vm : Vis X.env.scope "marks" := .inl (L (by decide))
  have vn : Vis X.env.scope "name" := .inl (L (by decide))
  obtain ⟨C, XC⟩ := R.exc _ _ _ hk
  have isK : ∀ {i : Nat} {x : Str} {p1 p2 p3 p4 : Pos}, i < 9 → refKinds[i]? = some x → (x, NameKind.globalImplicit) ∈ refNs → (x == ("__debug__" : Str)) = false → PE X (.Call (.Name "isinstance" p1) [.Name "e" p2, .Name x p3] [] p4) (tIsP q.1 dd (i == k)) := fun {i x _ _ _ _} h1 h2 h3 h4 =>
    pe_isPc C er hp (Gg (by decide)) R.mi n0 ve (pe_glob (v := .ref (cs i)) (Gg h3) (R.glob i x h2) rfl h4) (fun u r => r) (R.one _ _ _ hk i h1)
  have isV : ∀ {p1 p2 p3 p4 : Pos}, PE X (.Call (.Name "isinstance" p1) [.Name "e" p2, .Name "ValueError" p3] [] p4) (tIsP q.1 dd true) := fun {_ _ _ _} =>
    pe_isPc C er hp (Gg (by decide)) R.mi n0 ve (pe_bltn (v := .ty "ValueError") (Gg (by decide)) R.mv rfl rfl) (fun u r => r) (R.val _ _ _ hk)
  have ne9 : ∀ i, i < 9 → (V.bl (i == k) : V) = .bl (decide (i = k)) := fun i _ => by congr 1
  have e0 : ∀ {x : Str} {p0 p1 p2 : Pos} {j : Nat}, PT X (.Compare (.Name "name" p0) [.Eq] [.Constant (.str x) j p1] p2) (tTest (tOp rEq (tVar 3) (tC (.str x)))) := fun {_ _ _ _ _} => pt_cmpR op_eq (pe_var n3 vn) pe_str (nomark _)
  have eI : ∀ {x y : Str} {p0 p1 p2 p3 p4 : Pos} {j1 j2 j3 : Nat}, PT X (.Compare (.Name "name" p0) [.In] [.Tuple [.Constant (.str x) j1 p1, .Constant (.str y) j2 p2] j3 p3] p4) (tTest (tOp (rIn X.K false) (tVar 3) (tTup (tCons (tC (.str x)) (tCons (tC (.str y)) tNil))))) := fun {_ _ _ _ _ _ _ _ _ _} =>
    pt_cmpR op_in_seq (pe_var n3 vn) (pe_tup (pa_cons pe_str (pa_cons pe_str pa_nil))) (by with_unfolding_all rfl)
  have pre : ∀ (tail : List Stmt) (t : TS), PSs X tail t → PSs X ((refBody p).take 5 ++ tail) _ := fun tail t ht =>
    pss_cons (ps_set nd n1 (.inl (L (by decide))) (pe_lst (pa_cons pe_str (pa_cons pe_str (pa_cons pe_str (pa_cons pe_str (pa_cons pe_str (pa_cons pe_str (pa_cons pe_str (pa_cons pe_str (pa_cons pe_str pa_nil)))))))))) rfl (.inr (L (by decide))))
    (pss_cons (ps_set nd n2 (.inl (L (by decide))) (pe_lst (pa_cons (isK (i := 0) (by decide) rfl (by decide) rfl) (pa_cons (isK (i := 1) (by decide) rfl (by decide) rfl) (pa_cons (isK (i := 2) (by decide) rfl (by decide) rfl) (pa_cons (isK (i := 3) (by decide) rfl (by decide) rfl) (pa_cons (isK (i := 4) (by decide) rfl (by decide) rfl) (pa_cons (isK (i := 5) (by decide) rfl (by decide) rfl) (pa_cons (isK (i := 6) (by decide) rfl (by decide) rfl) (pa_cons (isK (i := 7) (by decide) rfl (by decide) rfl) (pa_cons (isK (i := 8) (by decide) rfl (by decide) rfl) pa_nil)))))))))) rfl (.inr (L (by decide))))
    (pss_cons (ps_if (pw_or (pt_cmpR op_ne (pe_bm PySem.F.plainAttrs_list PySem.F.slot_list_count PySem.F.type_list_count mt_countF (pe_var n2 vm) (pa_cons pe_bl pa_nil) rfl rfl h53 rfl rfl) pe_int (nomark _)) (pw_or1 (pt_not (pt_val isV)))).pt pss_never pss_nil)
    (pss_cons (ps_set nd n3 (.inl (L (by decide))) (pe_ix ix_list (pe_var n1 vk) (pe_bm PySem.F.plainAttrs_list PySem.F.slot_list_index PySem.F.type_list_index mt_index (pe_var n2 vm) (pa_cons pe_bl pa_nil) rfl rfl h71 rfl rfl) (fun _ _ => rfl)) rfl (.inr (L (by decide))))
    (pss_cons (ps_if e0 pss_never pss_nil) ht))))
  have s4 : ∀ {σ : Sl} {a b c d : Option V}, σ.length = 4 → σ[0]? = some a → ((σ.set 1 b).set 2 c).set 3 d = [a, b, c, d] := fun {σ a b c d} h1 h2 => by
    match σ, h1 with
    | [x0, x1, x2, x3], _ =>
      have : x0 = a := by simpa using h2
      subst this
      rfl
  have s2 : ∀ {σ : Sl} {a b : Option V}, σ.length = 4 → σ[0]? = some a → (σ.set 1 b)[0]? = some a := fun {σ a b} h1 h2 => by rw [List.getElem?_set_ne (by decide)]; exact h2
  have s3 : ∀ {σ : Sl} {a b c : Option V}, σ.length = 4 → σ[0]? = some a → ∃ d, ((σ.set 1 b).set 2 c) = [a, b, c, d] := fun {σ a b c} h1 h2 => by
    match σ, h1 with
    | [x0, x1, x2, x3], _ =>
      have : x0 = a := by simpa using h2
      subst this
      exact ⟨x3, rfl⟩
  rcases R.has _ _ _ hk with ⟨rfl, rfl⟩ | ⟨rfl, rfl⟩
  · have tl1 : PSs X ((refBody p).drop 5) _ := pss_cons (ps_if e0 (pss_one (ps_ret (pe_tup (pa_cons (pe_var n3 vn) (pa_cons (pe_fld (n := "value") (p := q) (dd := dd) XC (R.no _ _ _ hk _ (by simp)) er hp (pe_var n0 ve) rfl) pa_nil))))) pss_nil) pss_never
    refine PSs.imp (pre _ _ tl1) fun E σ H h => ?_
    obtain ⟨hl, h0, v, hd, hQ⟩ := h
    refine seq_set ⟨by decide, fun a1 f1 => ?_⟩
    dsimp only []
    have d1 : dd ≠ a1 := fun z => by rw [z, f1] at hd; cases hd
    have hd1 : upd H a1 (.lst refKV) dd = some (.xd [("value", v)]) := by rw [upd_ne d1]; exact hd
    have h01 := s2 (b := some (.ref a1)) hl h0
    refine seq_set ⟨h01, ⟨_, hd1⟩, h01, ⟨_, hd1⟩, h01, ⟨_, hd1⟩, h01, ⟨_, hd1⟩, h01, ⟨_, hd1⟩, h01, ⟨_, hd1⟩, h01, ⟨_, hd1⟩, h01, ⟨_, hd1⟩, h01, ⟨_, hd1⟩, by decide, fun a2 f2 => ?_⟩
    have f2 : upd H a1 (.lst refKV) a2 = none := f2
    have d2 : dd ≠ a2 := fun z => by rw [z, f2] at hd1; cases hd1
    have d12 : a1 ≠ a2 := fun z => by rw [← z, upd_same] at f2; cases f2
    obtain ⟨x3, e3⟩ := s3 (b := some (.ref a1)) (c := some (.ref a2)) hl h0
    have keep : ∀ b o, H b = some o → upd (upd H a1 (.lst refKV)) a2 (.lst (refMV 1)) b = some o := fun b o hb => by
      have b1 : b ≠ a1 := fun z => by rw [z, f1] at hb; cases hb
      have hb1 : upd H a1 (.lst refKV) b = some o := by rw [upd_ne b1]; exact hb
      have b2 : b ≠ a2 := fun z => by rw [z, f2] at hb1; cases hb1
      rw [upd_ne b2]; exact hb1
    have hd2 := keep _ _ hd
    have hm2 : SqL X.K (upd (upd H a1 (.lst refKV)) a2 (.lst (refMV 1))) a2 (refMV 1) := .of upd_same
    have hk2 : SqL X.K (upd (upd H a1 (.lst refKV)) a2 (.lst (refMV 1))) a1 refKV := .of (by rw [upd_ne d12]; exact upd_same)
    dsimp only []
    rw [e3]
    generalize upd (upd H a1 (.lst refKV)) a2 (.lst (refMV 1)) = H2 at hd2 hm2 hk2 keep
    refine ⟨_, rfl, .inl ⟨rfl, _, hm2⟩, a2, _, _, rfl, rfl, hm2, rfl, rfl, rfl, ?_⟩
    refine ⟨false, ref_cnt1, ?_⟩
    refine ⟨rfl, ⟨_, hd2⟩, true, rfl, ?_⟩
    refine ⟨_, rfl, _, rfl, .inl ⟨rfl, _, hm2⟩, a2, _, _, 1, _, rfl, rfl, hm2, rfl, rfl, rfl, rfl, ref_ix1, ?_⟩
    refine ⟨a1, _, _, _, rfl, rfl, hk2, ref_at1, ?_⟩
    refine ⟨_, rfl, rfl, false, ref_ne11, ?_⟩
    refine ⟨_, rfl, rfl, true, ref_ne12, ?_⟩
    refine ⟨_, rfl, _, rfl, rfl, _, _, hd2, rfl, two_line, fun r hr => hQ _ keep r hr⟩
  · have tl1 : PSs X ((refBody p).drop 5) _ := pss_cons (ps_if e0 pss_never pss_nil) (pss_cons (ps_if e0 pss_never pss_nil) (pss_cons (ps_if eI pss_never pss_nil) (pss_cons (ps_if eI pss_never pss_nil) (pss_one (ps_ret (pe_tup (pa_cons (pe_var n3 vn) (pa_cons (pe_fld (n := "place") (p := q) (dd := dd) XC (R.no _ _ _ hk _ (by simp)) er hp (pe_var n0 ve) rfl) pa_nil))))))))
    refine PSs.imp (pre _ _ tl1) fun E σ H h => ?_
    obtain ⟨hl, h0, v, hd, hQ⟩ := h
    refine seq_set ⟨by decide, fun a1 f1 => ?_⟩
    dsimp only []
    have d1 : dd ≠ a1 := fun z => by rw [z, f1] at hd; cases hd
    have hd1 : upd H a1 (.lst refKV) dd = some (.xd [("place", v)]) := by rw [upd_ne d1]; exact hd
    have h01 := s2 (b := some (.ref a1)) hl h0
    refine seq_set ⟨h01, ⟨_, hd1⟩, h01, ⟨_, hd1⟩, h01, ⟨_, hd1⟩, h01, ⟨_, hd1⟩, h01, ⟨_, hd1⟩, h01, ⟨_, hd1⟩, h01, ⟨_, hd1⟩, h01, ⟨_, hd1⟩, h01, ⟨_, hd1⟩, by decide, fun a2 f2 => ?_⟩
    have f2 : upd H a1 (.lst refKV) a2 = none := f2
    have d2 : dd ≠ a2 := fun z => by rw [z, f2] at hd1; cases hd1
    have d12 : a1 ≠ a2 := fun z => by rw [← z, upd_same] at f2; cases f2
    obtain ⟨x3, e3⟩ := s3 (b := some (.ref a1)) (c := some (.ref a2)) hl h0
    have keep : ∀ b o, H b = some o → upd (upd H a1 (.lst refKV)) a2 (.lst (refMV 3)) b = some o := fun b o hb => by
      have b1 : b ≠ a1 := fun z => by rw [z, f1] at hb; cases hb
      have hb1 : upd H a1 (.lst refKV) b = some o := by rw [upd_ne b1]; exact hb
      have b2 : b ≠ a2 := fun z => by rw [z, f2] at hb1; cases hb1
      rw [upd_ne b2]; exact hb1
    have hd2 := keep _ _ hd
    have hm2 : SqL X.K (upd (upd H a1 (.lst refKV)) a2 (.lst (refMV 3))) a2 (refMV 3) := .of upd_same
    have hk2 : SqL X.K (upd (upd H a1 (.lst refKV)) a2 (.lst (refMV 3))) a1 refKV := .of (by rw [upd_ne d12]; exact upd_same)
    dsimp only []
    rw [e3]
    generalize upd (upd H a1 (.lst refKV)) a2 (.lst (refMV 3)) = H2 at hd2 hm2 hk2 keep
    refine ⟨_, rfl, .inl ⟨rfl, _, hm2⟩, a2, _, _, rfl, rfl, hm2, rfl, rfl, rfl, ?_⟩
    refine ⟨false, ref_cnt3, ?_⟩
    refine ⟨rfl, ⟨_, hd2⟩, true, rfl, ?_⟩
    refine ⟨_, rfl, _, rfl, .inl ⟨rfl, _, hm2⟩, a2, _, _, 3, _, rfl, rfl, hm2, rfl, rfl, rfl, rfl, ref_ix3, ?_⟩
    refine ⟨a1, _, _, _, rfl, rfl, hk2, ref_at3, ?_⟩
    refine ⟨_, rfl, rfl, false, ref_ne31, ?_⟩
    refine ⟨_, rfl, rfl, false, ref_ne32, ?_⟩
    refine ⟨_, rfl, rfl, false, ref_ne33, ?_⟩
    refine ⟨_, rfl, two_line, fun b1 g1 => ⟨b1, _, rfl, .inr (.of upd_same), rfl, rfl, false, ref_in31, ?_⟩⟩
    have keep3 : ∀ b o, H b = some o → upd H2 b1 (.tup [.str "BadText", .str "BadLine"]) b = some o := fun b o hb => by
      have hb2 := keep b o hb
      rw [upd_ne (fun z => by rw [← z, hb2] at g1; cases g1)]; exact hb2
    generalize upd H2 b1 (.tup [.str "BadText", .str "BadLine"]) = H3 at keep3
    refine ⟨_, rfl, two_line, fun b2 g2 => ⟨b2, _, rfl, .inr (.of upd_same), rfl, rfl, false, ref_in32, ?_⟩⟩
    have keep4 : ∀ b o, H b = some o → upd H3 b2 (.tup [.str "BadClaim", .str "NothingDone"]) b = some o := fun b o hb => by
      have hb2 := keep3 b o hb
      rw [upd_ne (fun z => by rw [← z, hb2] at g2; cases g2)]; exact hb2
    generalize upd H3 b2 (.tup [.str "BadClaim", .str "NothingDone"]) = H4 at keep4
    refine ⟨_, rfl, _, rfl, rfl, _, _, keep4 _ _ hd, rfl, two_line, fun r hr => hQ _ keep4 r hr⟩
end

/-! ### the helper itself -/
theorem Wd.grow_ext {w : Wd} {H' : Hp} (h : Sub w.H H') : Ext w { w with H := H' } :=
  ⟨Sub.refl _, fun _ _ => rfl, fun a o e _ _ => h a o e, fun a n => by
    cases e : w.H a with
    | none => exact absurd e n
    | some o => rw [show ({ w with H := H' } : Wd).H a = H' a from rfl, h a o e]; simp, [], by simp, by simp⟩
theorem WOk.grow {G : Hd} {w : Wd} {H' : Hp} (ok : WOk G w) (h : Sub w.H H') : WOk G { w with H := H' } :=
  ⟨ok.sub.trans h, ok.nd, ok.len, fun n a so h1 h2 => by
    obtain ⟨f, r⟩ := ok.st n a so h1 h2
    refine ⟨f, ?_⟩
    cases so with
    | lst ds =>
      obtain ⟨vs, e, q⟩ := r
      exact ⟨vs, h _ _ e, q⟩
    | ins _ _ => exact r.elim, ok.tab.ext fun b u e => h b u e, ok.ntb⟩
theorem refusal_ok {P : Program} {w : World} {K : PySem.W.Frag} {mg : Str → Option Value} {base : Heap} {G : Hd} {ex : Nat → Option (Addr × List Str)} {B : Base} {cs : Nat → Addr} {r : Addr} {name : Str} {params : Arguments} {sc : Scope} {dV kV doc pm cdv ct oc : Value} {an od : Option Addr} {osl : Array (Option Value)} {p : Nat → Pos}
    (lk : K.lookup r = some ⟨oc, od, .func (PySem.W.fnOf name "_law_refusal" params (refBody p) sc dV kV doc pm an cdv ct), osl⟩) (hcd : PySem.W.codeIn K cdv "_law_refusal" = true) (S : FnScope ["e", "kinds", "marks", "name"] ["e"] sc)
    (hb : ∀ us : List Value, us.length = 1 → bindArgs (PySem.W.fnOf name "_law_refusal" params (refBody p) sc dV kV doc pm an cdv ct) ⟨us, []⟩ = pure ((["e"] : List Str).zip us))
    (R : RefE K mg ex cs) (hg : ∀ y ∈ refNs, sc.names.lookup y.1 = some y.2) (h53 : ((p 53).endLine == (p 55).line) = true) (h71 : ((p 71).endLine == (p 73).line) = true)
    (hB : ∀ k v, B.ref k [v] = some (.tup [.str (refKinds.getD k "").cps.toList, v]) ∨ B.ref k [v] = none) : RefOk P w K mg base G (cxG G ex) B r := by
  refine ⟨fun A outer s q k vs w0 d Q hr hpin e0 ok hcx hfs hd hQ => ?_⟩
  obtain ⟨C, dd, ps, us, hex, hcls, hdict, hF, hrep, hlen⟩ := hcx
  have er : ErrP K q C dd := ⟨hcls, hdict, hfs⟩
  obtain ⟨f, hps, hf⟩ : ∃ f, ps = [f] ∧ ps.headD "" = f := by
    rcases R.has _ _ _ hex with ⟨_, rfl⟩ | ⟨_, rfl⟩ <;> exact ⟨_, rfl, rfl⟩
  subst hps
  match vs, hlen with
  | [v], _ =>
  simp only [RepL] at hrep
  obtain ⟨u, us', rfl, hu, rfl⟩ := hrep
  have hd2 : d = .tup [.str (refKinds.getD k "").cps.toList, v] := by
    rcases hB k v with h | h
    · rw [h] at hd; cases hd; rfl
    · rw [h] at hd; cases hd
  subst hd2
  have hH : w0.H dd = some (.xd [(f, u)]) := ok.sub _ _ hF
  refine hot_run (E := fun _ _ _ => False) (k := 0) lk hcd S hr hpin e0 (.of_eq (hb _ rfl)) (.cons (show RelV (.ref q.1) (.ref q.1) from rfl) .nil) rfl
    (ref_body (q := q) (D := C) (dd := dd) R hex er (by show q ∈ [q]; simp) rfl hg (fun x h => h) h53 h71) ?_
  refine ⟨rfl, rfl, u, hH, fun H' k1 a na => ?_⟩
  have x1 := Wd.grow_ext (w := w0) k1
  have ok1 := ok.grow k1
  have x2 := Wd.new_ext ok1.sub (o := .tup [.str (refKinds.getD k ""), u]) na
  have ok2 := ok1.new (o := .tup [.str (refKinds.getD k ""), u]) na (fun ps z => by cases z)
  refine hQ _ (.ref a) (x1.trans x2) ok2 rfl ?_
  simp only [RepV, RepL]
  exact ⟨a, _, rfl, .inl (.inl upd_same), .str (refKinds.getD k ""), [u], rfl, rfl, u, [], rfl, (hu.ext x1).ext x2, rfl⟩
end RB

set_option Elab.async false
set_option linter.all false
set_option maxRecDepth 100000
set_option maxHeartbeats 4000000
set_option autoImplicit false
/-! The head: what is asked of the module's objects, as one Bool; what it tells. -/
namespace RB
open PySem PySem.Spec PyProof.Rows L2 He NdefX

/-! ### the Hook -/
def asR (g : Addr → Option Obj) (n : Nat) : List Addr := cStatics :: asD g n
structure SaysR (fa : List Fa) (fn : List DefD) (tf : List Defn) (ex : PySem.W.Frag → Bool) (h : Heap) (K : PySem.W.Frag) : Prop where
  t : SaysD fa fn K
  more : ex K = true
  hd : ∀ p ∈ tf, PySem.W.codeHdIn K (cT K p).1 (cT K p).2 = true
  out : ∀ p ∈ tf, K.lookup (cT K p).2 = none
  empty : ∀ p ∈ tf, h.get? (cT K p).2 = some { cls := .none, data := .fields #[] }
abbrev AlR : Type := AlD × Bool
def obsRK (fa : List Fa) (fn : List DefD) (tf : List Defn) (ex : PySem.W.Frag → Bool) (g : Addr → Option Obj) (K : PySem.W.Frag) : AlR := (obsD fa fn K, ex K && tabsB g tf K)
def obsR (n : Nat) (fa : List Fa) (fn : List DefD) (tf : List Defn) (ex : PySem.W.Frag → Bool) (g : Addr → Option Obj) : AlR := obsRK fa fn tf ex g (frT g (asR g n))
def valR (fn : List DefD) : AlR := (valD fn, true)
theorem saysR_of {fa : List Fa} {fn : List DefD} {tf : List Defn} {ex : PySem.W.Frag → Bool} {h : Heap} {as : List Addr} (e : obsRK fa fn tf ex h.get? (frT h.get? as) = valR fn) : SaysR fa fn tf ex h (frT h.get? as) := by
  have e1 : obsD fa fn (frT h.get? as) = valD fn := congrArg (fun z : AlR => z.1) e
  obtain ⟨q1, q2⟩ := ba (show (ex (frT h.get? as) && tabsB h.get? tf (frT h.get? as)) = true from congrArg (fun z : AlR => z.2) e)
  have key : ∀ p ∈ tf, PySem.W.codeHdIn (frT h.get? as) (cT (frT h.get? as) p).1 (cT (frT h.get? as) p).2 = true ∧ ∃ o, h.get? (cT (frT h.get? as) p).2 = some o ∧ emptyTab o = true := fun p hp => by
    obtain ⟨q3, q4⟩ := ba (List.all_eq_true.mp q2 p hp)
    refine ⟨q3, ?_⟩
    cases q : h.get? (cT (frT h.get? as) p).2 with
    | none => rw [q] at q4; exact nomatch q4
    | some o => rw [q] at q4; exact ⟨o, rfl, q4⟩
  refine ⟨e1, q1, fun p hp => (key p hp).1, fun p hp => ?_, fun p hp => ?_⟩
  · obtain ⟨o, q, z⟩ := (key p hp).2
    exact frT_none q z
  · obtain ⟨o, q, z⟩ := (key p hp).2
    rw [q, emptyTab_eq z]
def hookR (n : Nat) (fa : List Fa) (fn : List DefD) (tf : List Defn) (ex : PySem.W.Frag → Bool) : PySem.W.Hook where
  α := AlR
  obs := fun s => obsR n fa fn tf ex s.heap.get?
  val := fun _ => valR fn
  says := fun _ h => ∃ K : PySem.W.Frag, K.In h ∧ SaysR fa fn tf ex h K
  of := fun _ _ e => ⟨_, frT_in, saysR_of e⟩
  keeps := fun _ _ _ ⟨K, hK, c⟩ k => ⟨K, PySem.W.Frag.In.keeps hK k, c.t, c.more, c.hd, c.out, fun p hp => k _ _ (c.empty p hp)⟩
theorem obsR_eq {n : Nat} {fa : List Fa} {fn : List DefD} {tf : List Defn} {ex : PySem.W.Frag → Bool} {g : Addr → Option Obj} {s : Shared} (h : ∀ a, g a = s.heap.get? a) : obsR n fa fn tf ex g = (hookR n fa fn tf ex).obs s := by
  rw [show g = s.heap.get? from funext h] <;> rfl

/-! ### an own exception class, as a Bool -/
def initA (P : Program) (K : PySem.W.Frag) (C fI : Addr) (ps : List Str) : Bool := match K.lookup fI with
  | some ⟨_, _, .func ⟨_, qual, ⟨[], as, none, [], _, none, []⟩, .stmts (st :: sts), sc, g, [(cn, cc)], .none, _, _, _, _, .ref cda, _, bu⟩, _⟩ => decide (g = mainGlobals) && decide (bu = builtinsNs) && decide (cn = ("__class__" : Str)) && PySem.W.codeIn K (.ref cda) qual && (match as.map (·.arg) with
      | me :: ps' => decide (ps' = ps) && superB st && fieldsB me ps sts && nscB (me :: ps ++ [("__class__" : Str)]) (me :: ps) [("__class__" : Str)] sc && ((me :: ps).all fun x => !(x == ("__debug__" : Str)) && !(x == ("__classdict__" : Str)))
      | [] => false) && decide (sc.names.lookup ("super" : Str) = some .globalImplicit) && (match K.lookup cc with
      | some ⟨_, _, .cell (some (.ref C')), _⟩ => decide (C' = C)
      | _ => false) && (match K.lookup cda with
      | some ⟨_, _, .fields vs, _⟩ => (match vs[2]? with
        | some (Value.str file _) => (P.main.file : Str) == file
        | _ => false)
      | _ => false)
  | _ => false
def oexA (K : PySem.W.Frag) (C : Addr) : Bool := (match K.lookup C with
  | some ⟨.type c, _, .cls ⟨_, _, .ref C' :: bm, _, _, hd, _, _, _, _, del⟩, ⟨[_, _, _, _, some (.builtin n), _]⟩⟩ => decide (c = "type") && decide (C' = C) && decide (n = "ValueError.__new__") && !del && hd && PySem.HandSPX.refsVE bm
  | _ => false) && eqO (PySem.W.findIn K (.ref C) "__setattr__") (some (some (.builtin "object.__setattr__"))) && decide (PySem.W.subIn K (.ref C) (.type "BaseException") = some true) && decide (PySem.W.typeIn K (.ref C) = some (.type "type")) && PySem.W.keepIn K (.ref C)
theorem oexA_ok {K : PySem.W.Frag} {C : Addr} (h : oexA K C = true) : OexC K C := by
  unfold oexA at h
  simp only [Bool.and_eq_true] at h
  obtain ⟨⟨⟨⟨h1, h2⟩, h3⟩, h4⟩, h5⟩ := h
  refine ⟨?_, eqO_ok h2, of_decide_eq_true h3, of_decide_eq_true h4, h5⟩
  split at h1
  · rename_i c dd nm bs C' bm ns qn hd sn sub ab col del k0 k1 k2 k3 n k5 ho
    simp only [Bool.and_eq_true, decide_eq_true_eq, Bool.not_eq_true'] at h1
    obtain ⟨⟨⟨⟨⟨rfl, rfl⟩, rfl⟩, rfl⟩, rfl⟩, hr⟩ := h1
    exact ⟨_, _, _, _, _, _, _, _, _, _, _, _, _, _, _, ho, hr⟩
  · cases h1
def excA (K : PySem.W.Frag) (D : Addr) : Bool := eqO (PySem.W.findIn K (.ref D) "__getattribute__") (some (some (.builtin "BaseException.__getattribute__"))) && eqO (PySem.W.findIn K (.ref D) "__getattr__") (some none) && decide (PySem.W.subIn K (.ref D) (.type "BaseException") = some true) && PySem.W.hasDictIn K D &&
  eqO (PySem.W.findIn K (.ref D) "__class__") (some (some (.builtin "object.__class__"))) && eqO (PySem.W.specialIn K (.builtin "object.__class__") "__get__") (some (some (.builtin "getset_descriptor.__get__"))) && decide (PySem.W.takesIn K (.builtin "object.__class__") = some true) && decide (PySem.W.mroIn K D (.type "object") = some true)
theorem excA_ok {K : PySem.W.Frag} {D : Addr} (h : excA K D = true) : ExcC K D ∧ XfC K D := by
  unfold excA at h
  simp only [Bool.and_eq_true] at h
  obtain ⟨⟨⟨⟨⟨⟨⟨h1, h2⟩, h3⟩, h4⟩, h5⟩, h6⟩, h7⟩, h8⟩ := h
  exact ⟨⟨eqO_ok h1, eqO_ok h2, of_decide_eq_true h3, h4, eqO_ok h5, eqO_ok h6, of_decide_eq_true h7, of_decide_eq_true h8⟩, ⟨eqO_ok h1, eqO_ok h2, of_decide_eq_true h3, h4⟩⟩
/-- all that is asked of an own exception class named x, with the fields ps; l: the classes that are asked for, i: its place among them -/
def ownA (P : Program) (K : PySem.W.Frag) (x : Str) (ps : List Str) : Bool := let C := ga K x
  let fI := ma K C "__init__"
  initA P K C fI ps && (PySem.W.clsIn K C).isSome && decide (PySem.W.mroIn K C (.ref C) = some true) && eqO (PySem.W.nsIn K cStatics "thirdparty.any") (some none) && eqO (PySem.W.ks_superIn K C C "__init__") (some (some (.builtin "ValueError.__init__"))) && decide (PySem.W.subIn K (.ref C) (.type "ValueError") = some true) && oexA K C &&
  (ps.all fun p => eqO (PySem.W.findIn K (.ref C) p) (some none)) && decide (0 < ps.length ∧ ps.length ≤ 100) && eqO (PySem.W.findIn K (.ref C) "__init__") (some (some (.ref fI))) && decide (PySem.W.typeIn K (.ref fI) = some (.type "function")) && excA K C && (Fa.glo x).ok K && decide (PySem.W.exmOne K (.ref C) (.ref (ga K "RowError")) = some true) &&
  ((List.range 9).all fun i => decide (PySem.W.kitOne K (.ref C) (.ref (ga K (refKinds.getD i ""))) = some (refKinds.getD i "" == x))) && decide (PySem.W.kitOne K (.ref C) (.type "ValueError") = some true)
structure OwnX (P : Program) (K : PySem.W.Frag) (x : Str) (ps : List Str) : Prop where
  init : ∀ mg : Str → Option Value, (P.main.scope.names.lookup ("super" : Str)).isSome = false → mg "super" = none → ∃ fd, InitF P K mg (ga K x) (ma K (ga K x) "__init__") fd ps
  ini : PySem.W.findIn K (.ref (ga K x)) "__init__" = some (some (.ref (ma K (ga K x) "__init__")))
  ty : PySem.W.typeIn K (.ref (ma K (ga K x) "__init__")) = some (.type "function")
  exc : ExcC K (ga K x) ∧ XfC K (ga K x)
  no : ∀ p ∈ ps, PySem.W.findIn K (.ref (ga K x)) p = some none
  glo : (Fa.glo x).ok K = true
  row : PySem.W.exmOne K (.ref (ga K x)) (.ref (ga K "RowError")) = some true
  one : ∀ i, i < 9 → PySem.W.kitOne K (.ref (ga K x)) (.ref (ga K (refKinds.getD i ""))) = some (refKinds.getD i "" == x)
  val : PySem.W.kitOne K (.ref (ga K x)) (.type "ValueError") = some true
theorem initA_ok {P : Program} {K : PySem.W.Frag} {C fI : Addr} {ps : List Str} (h : initA P K C fI ps = true) : ∃ fd : FuncData, ∃ (oc : Value) (od : Option Addr) (osl : Array (Option Value)) (name qual me : Str) (as : List Arg) (kwd : List (Option Expr)) (st : Stmt) (sts : List Stmt) (sc : Scope) (cc cda : Addr) (kV doc pm ct : Value) (an : Option Addr),
    K.lookup fI = some ⟨oc, od, .func fd, osl⟩ ∧ fd = PySem.W.fnX name qual ⟨[], as, none, [], kwd, none, []⟩ (st :: sts) sc [(("__class__" : Str), cc)] .none kV doc pm an (.ref cda) ct ∧ PySem.W.codeIn K (.ref cda) qual = true ∧
    as.map (·.arg) = me :: ps ∧ superB st = true ∧ fieldsB me ps sts = true ∧ nscB (me :: ps ++ [("__class__" : Str)]) (me :: ps) [("__class__" : Str)] sc = true ∧ sc.names.lookup ("super" : Str) = some .globalImplicit ∧
    ((me :: ps).all fun x => !(x == ("__debug__" : Str)) && !(x == ("__classdict__" : Str))) = true ∧
    (∃ oc : Obj, K.lookup cc = some oc ∧ oc.data = .cell (some (.ref C))) ∧
    (∃ (oc : Obj) (vs : Array Value) (file : Str) (tf : Tok), K.lookup cda = some oc ∧ oc.data = .fields vs ∧ vs[2]? = some (.str file tf) ∧ ((P.main.file : Str) == file) = true) := by
  unfold initA at h
  split at h
  · rename_i oc od nm qual as kwd st sts sc g cn cc kV doc pm an cda ct bu osl ho
    simp only [Bool.and_eq_true] at h
    obtain ⟨⟨⟨⟨⟨⟨⟨h1, h2⟩, h3⟩, h4⟩, h5⟩, h6⟩, h7⟩, h8⟩ := h
    obtain rfl := of_decide_eq_true h1
    obtain rfl := of_decide_eq_true h2
    obtain rfl := of_decide_eq_true h3
    split at h5
    · rename_i me ps' hm
      simp only [Bool.and_eq_true] at h5
      obtain ⟨⟨⟨⟨g1, g2⟩, g3⟩, g4⟩, g5⟩ := h5
      obtain rfl := of_decide_eq_true g1
      refine ⟨_, oc, od, osl, nm, qual, me, as, kwd, st, sts, sc, cc, cda, kV, doc, pm, ct, an, ho, rfl, h4, hm, g2, g3, g4, of_decide_eq_true h6, g5, ?_, ?_⟩
      · split at h7
        · rename_i c1 d1 C' sl hc
          obtain rfl := of_decide_eq_true h7
          exact ⟨_, hc, rfl⟩
        · cases h7
      · split at h8
        · rename_i c1 d1 vs sl hc
          split at h8
          · rename_i file tf hf
            exact ⟨_, vs, file, tf, hc, rfl, hf, h8⟩
          · cases h8
        · cases h8
    · cases h5
  · cases h
theorem ownA_ok {P : Program} {K : PySem.W.Frag} {x : Str} {ps : List Str} (h : ownA P K x ps = true) : OwnX P K x ps := by
  unfold ownA at h
  simp only [Bool.and_eq_true] at h
  obtain ⟨⟨⟨⟨⟨⟨⟨⟨⟨⟨⟨⟨⟨⟨⟨h1, h2⟩, h3⟩, h4⟩, h5⟩, h6⟩, h7⟩, h8⟩, h9⟩, h10⟩, h11⟩, h12⟩, h13⟩, h14⟩, h15⟩, h16⟩ := h
  have hno : ∀ p ∈ ps, PySem.W.findIn K (.ref (ga K x)) p = some none := fun p hp => eqO_ok (List.all_eq_true.mp h8 p hp)
  refine ⟨fun mg ht hm => ?_, eqO_ok h10, of_decide_eq_true h11, excA_ok h12, hno, h13, of_decide_eq_true h14, fun i hi => of_decide_eq_true (List.all_eq_true.mp h15 i (List.mem_range.mpr hi)), of_decide_eq_true h16⟩
  obtain ⟨fd, hfd⟩ := initA_ok h1
  exact ⟨fd, hfd, ht, hm, Option.isSome_iff_exists.mp h2, of_decide_eq_true h3, eqO_ok h4, eqO_ok h5, of_decide_eq_true h6, oexA_ok h7, hno, of_decide_eq_true h9⟩
end RB

set_option Elab.async false
set_option linter.all false
set_option maxRecDepth 100000
set_option maxHeartbeats 4000000
set_option autoImplicit false
/-! _law_same: repr(found) == repr(due), equal data, no repr under way. -/
namespace RB
open PySem PySem.Spec PyProof.Rows L2

mutual
theorem same_eq : ∀ {x y : D}, same2 x y = true → x = y
  | .non, .non, _ => rfl
  | .bl a, .bl b, h => by simp only [same2, beq_iff_eq] at h; rw [h]
  | .int a, .int b, h => by simp only [same2, beq_iff_eq] at h; rw [h]
  | .str a, .str b, h => by simp only [same2, beq_iff_eq] at h; rw [h]
  | .lst xs, .lst ys, h => congrArg D.lst (sames_eq (by simpa only [same2] using h))
  | .tup xs, .tup ys, h => congrArg D.tup (sames_eq (by simpa only [same2] using h))
  | .non, .bl _, h | .non, .int _, h | .non, .str _, h | .non, .tup _, h | .non, .lst _, h | .non, .dic _ _, h | .non, .obj _ _, h | .non, .fn _, h | .non, .clo _ _, h | .non, .ref _, h | .non, .scr _, h => by simp [same2] at h
  | .bl _, .non, h | .bl _, .int _, h | .bl _, .str _, h | .bl _, .tup _, h | .bl _, .lst _, h | .bl _, .dic _ _, h | .bl _, .obj _ _, h | .bl _, .fn _, h | .bl _, .clo _ _, h | .bl _, .ref _, h | .bl _, .scr _, h => by simp [same2] at h
  | .int _, .non, h | .int _, .bl _, h | .int _, .str _, h | .int _, .tup _, h | .int _, .lst _, h | .int _, .dic _ _, h | .int _, .obj _ _, h | .int _, .fn _, h | .int _, .clo _ _, h | .int _, .ref _, h | .int _, .scr _, h => by simp [same2] at h
  | .str _, .non, h | .str _, .bl _, h | .str _, .int _, h | .str _, .tup _, h | .str _, .lst _, h | .str _, .dic _ _, h | .str _, .obj _ _, h | .str _, .fn _, h | .str _, .clo _ _, h | .str _, .ref _, h | .str _, .scr _, h => by simp [same2] at h
  | .tup _, .non, h | .tup _, .bl _, h | .tup _, .int _, h | .tup _, .str _, h | .tup _, .lst _, h | .tup _, .dic _ _, h | .tup _, .obj _ _, h | .tup _, .fn _, h | .tup _, .clo _ _, h | .tup _, .ref _, h | .tup _, .scr _, h => by simp [same2] at h
  | .lst _, .non, h | .lst _, .bl _, h | .lst _, .int _, h | .lst _, .str _, h | .lst _, .tup _, h | .lst _, .dic _ _, h | .lst _, .obj _ _, h | .lst _, .fn _, h | .lst _, .clo _ _, h | .lst _, .ref _, h | .lst _, .scr _, h => by simp [same2] at h
  | .dic _ _, _, h | .obj _ _, _, h | .fn _, _, h | .clo _ _, _, h | .ref _, _, h | .scr _, _, h => by simp [same2] at h
theorem sames_eq : ∀ {xs ys : List D}, sames xs ys = true → xs = ys
  | [], [], _ => rfl
  | x :: xs, y :: ys, h => by
    simp only [sames, Bool.and_eq_true] at h
    rw [same_eq h.1, sames_eq h.2]
  | [], _ :: _, h => by simp [sames] at h
  | _ :: _, [], h => by simp [sames] at h
end
mutual
theorem show_of_small : ∀ {d : D}, smallD d = true → (toPD d).showable = true ∧ (toPD d).intsShort 13 = true
  | .int i, h => by
    simp only [smallD, decide_eq_true_eq] at h
    refine ⟨?_, ?_⟩
    · show decide (i.natAbs.log2 < 1920) = true
      refine decide_eq_true ?_
      by_cases h0 : i.natAbs = 0
      · rw [h0]; decide
      · exact (Nat.log2_lt h0).mpr (Nat.lt_of_lt_of_le h (by decide +kernel))
    · show decide ((PyData.shown (.int i)).length ≤ 13) = true
      exact decide_eq_true (PyData.shown_int_le (Nat.lt_of_lt_of_le h (by decide)))
  | .lst xs, h => by
    have := shows_of_small (ds := xs) (by simpa only [smallD] using h)
    simp only [toPD, PyData.showable, PyData.intsShort]
    exact this
  | .tup xs, h => by
    have := shows_of_small (ds := xs) (by simpa only [smallD] using h)
    simp only [toPD, PyData.showable, PyData.intsShort]
    exact this
  | .non, _ | .bl _, _ | .str _, _ | .dic _ _, _ | .obj _ _, _ | .fn _, _ | .clo _ _, _ | .ref _, _ | .scr _, _ => by simp only [toPD, PyData.showable, PyData.intsShort, and_self]
theorem shows_of_small : ∀ {ds : List D}, smallDs ds = true → PyData.showableAll (toPDs ds) = true ∧ PyData.intsShortAll 13 (toPDs ds) = true
  | [], _ => by simp only [toPDs, PyData.showableAll, PyData.intsShortAll, and_self]
  | d :: ds, h => by
    simp only [smallDs, Bool.and_eq_true] at h
    obtain ⟨a1, a2⟩ := show_of_small h.1
    obtain ⟨b1, b2⟩ := shows_of_small h.2
    simp only [toPDs, PyData.showableAll, PyData.intsShortAll, a1, a2, b1, b2, Bool.and_self, and_self]
end
mutual
theorem bulk_pd : ∀ d : D, (toPD d).bulk = bulkD d
  | .str s => by simp only [toPD, PyData.bulk, bulkD, strV, List.size_toArray]
  | .lst xs => by simp only [toPD, PyData.bulk, bulkD, bulks_pd xs]
  | .tup xs => by simp only [toPD, PyData.bulk, bulkD, bulks_pd xs]
  | .non | .bl _ | .int _ | .dic _ _ | .obj _ _ | .fn _ | .clo _ _ | .ref _ | .scr _ => by simp only [toPD, PyData.bulk, bulkD]
theorem bulks_pd : ∀ ds : List D, PyData.bulkAll (toPDs ds) = bulkDs ds
  | [] => by simp only [toPDs, PyData.bulkAll, bulkDs]
  | d :: ds => by simp only [toPDs, PyData.bulkAll, bulkDs, bulk_pd d, bulks_pd ds]
end
section
variable {X : Cx}
theorem cr_repr (hg : X.A.guards = some []) (hu : X.A.units + 62 < cLine) : CallR X (.builtin "repr") (fun xs H Q => ∃ (a : Addr) (pd : PyData), xs = [.ref a] ∧ Dp X.K H (.ref a) pd ∧ pd.showable = true ∧ pd.hasDict = false ∧ pd.depth ≤ 60 ∧ pd.shown.length ≤ sizeLine ∧ Q (.str pd.shown) H) := by
  intro pins s σ H xs us Q I r h
  obtain ⟨a, pd, rfl, hd, h1, h2, h3, h4, q⟩ := h
  rw [Vals.ref1 r]
  obtain ⟨as, rd⟩ := Dp.reads I pd (.ref a) (.ref a) hd rfl
  exact repr_of_reads' rd h1 (PyData.noDict_hsm h2) hg (by omega) (fun _ _ e => e) (fun h' u tk hk => ⟨.str _, H, I.kept hk, ⟨u, rfl⟩, q⟩) h4
end
def sameBody (p : Nat → Pos) : List Stmt := [.Return (some (.Compare (.Call (.Name "repr" (p 1)) [.Name "found" (p 2)] [] (p 3)) [.Eq] [.Call (.Name "repr" (p 4)) [.Name "due" (p 5)] [] (p 6)] (p 7))) (p 8)]
theorem same_ok {Pg : Program} {w : World} {K : PySem.W.Frag} {mg : Str → Option Value} {base : Heap} {G : Hd} {cx : Nat → List D → Wd → Value → Option Addr → Prop} {A : Around} {as : List Arg} {kwd : List (Option Expr)} {sc : Scope} {x : Str} {f : Addr} {fd : FuncData} {p : Nat → Pos}
    (hK : G.K = K) (hA : A.guards = some []) (F : FunD K x x ⟨[], as, none, [], kwd, none, []⟩ (sameBody p) sc [] [] f fd) (has : as.map (·.arg) = [("found" : Str), "due"]) (S : FnScope ["found", "due"] ["found", "due"] sc)
    (l1 : sc.names.lookup ("found" : Str) = some .local) (l2 : sc.names.lookup ("due" : Str) = some .local) (l3 : sc.names.lookup ("repr" : Str) = some .globalImplicit) (hm : mg "repr" = none) :
    Binds K fd (as.map (·.arg)) [] ∧ FnAt Pg w K mg base (L2.CX Pg w) A 3 f fd (as.map (·.arg)) (spG G cx as.length sameF) := by
  have nd : (as.map (·.arg)).Nodup := by rw [has]; decide
  have h2 : as.length = 2 := by
    have := congrArg List.length has
    simpa using this
  refine ⟨F.bindsN fun _ _ _ _ _ _ us hl => binds_plain nd hl, ⟨spG_len (by simp), fun outer s H args us vs Q E hr e0 b r h => ?_⟩⟩
  have hl : vs.length = (as.map (·.arg)).length := spG_len (by simp) _ _ _ _ h
  obtain ⟨oc, od, dV, kV, doc, pm, an, cdv, ct, osl, rfl, lk, hcd, _, _⟩ := F.ex
  rw [has] at b hl
  refine LamX.run_ofS (k := 2) lk hcd S hr e0 b r hl fun hr1 => ?_
  obtain ⟨w0, es, rfl, ok, rr, le, pp⟩ := h
  rw [h2] at le
  match es, le with
  | [dx, dy], _ =>
  simp only [RepL] at rr
  obtain ⟨vx, _, rfl, rx, vy, _, rfl, ry, rfl⟩ := rr
  have p2 : PostR G cx w0 (.of ((sameD dx dy).map .bl) w0.S) Q E := pp
  have hs : (isSeq dx && fine 60 dx && smallD dx && decide (bulkD dx ≤ 1048576) && same2 dx dy) = true := by
    unfold sameD at p2
    split at p2
    · assumption
    · exact p2.elim
  have es : sameD dx dy = some true := by unfold sameD; rw [if_pos hs]
  rw [es] at p2
  simp only [Bool.and_eq_true, decide_eq_true_eq] at hs
  obtain ⟨⟨⟨⟨q1, q2⟩, q3⟩, q4⟩, q5⟩ := hs
  have exy := same_eq q5
  subst exy
  have isR : ∀ {v : V}, RepV G w0.F w0.M dx v → ∃ a, v = .ref a := fun {v} rv => by
    cases dx with
    | lst xs => obtain ⟨a, _, e, _⟩ := rep_lst.mp rv; exact ⟨a, e⟩
    | tup xs => rw [rep_tup] at rv; obtain ⟨a, _, e, _⟩ := rv; exact ⟨a, e⟩
    | _ => cases q1
  obtain ⟨ax, rfl⟩ := isR rx
  obtain ⟨ay, rfl⟩ := isR ry
  obtain ⟨t1, t2⟩ := show_of_small q3
  have c0 := canLay_of_fine q2
  have t3 : (toPD dx).shown.length ≤ sizeLine := PyData.shown_fits_bulk (B := 13) (by decide) (by decide) (PyData.leavesShort_of_canLay0 13 _ c0 t2) (by rw [bulk_pd]; exact Nat.le_trans q4 (by decide))
  have t4 := PyData.hasDict_of_canLay _ c0
  have t5 := depth_of_fine q2
  have dx1 : Dp K w0.H (.ref ax) (toPD dx) := hK ▸ dp_of ok.sub q2 rx
  have dy1 : Dp K w0.H (.ref ay) (toPD dx) := hK ▸ dp_of ok.sub q2 ry
  have gl : Gl (cxOf (L2.CX Pg w) Pg w K mg base ["found", "due"] x sc f cdv A outer s w0.H E) "repr" := l3
  have cr := cr_repr (X := cxOf (L2.CX Pg w) Pg w K mg base ["found", "due"] x sc f cdv A outer s w0.H E) (show (A.deeper _).guards = some [] from hA) (by have := hr1.un; show (A.deeper _).units + 62 < cLine; omega)
  refine ⟨_, pss_one (ps_ret (pe_cmpR op_eq (pe_callB cr gl hm rfl (pa_cons (pe_var (i := 0) rfl (.inl l1)) pa_nil)) (pe_callB cr gl hm rfl (pa_cons (pe_var (i := 1) rfl (.inl l2)) pa_nil)) (nomark _))), ?_⟩
  refine ⟨_, rfl, ax, toPD dx, rfl, dx1, t1, t4, t5, t3, _, rfl, ay, toPD dx, rfl, dy1, t1, t4, t5, t3, rfl, ?_⟩
  have ed : decide (V.str (toPD dx).shown = V.str (toPD dx).shown) = true := decide_eq_true rfl
  show Q (.bl (decide (V.str (toPD dx).shown = V.str (toPD dx).shown))) w0.H
  rw [ed]
  exact p2 w0 (.bl true) (Ext.refl w0) ok rfl (rep_bl.mpr rfl)
end RB

set_option Elab.async false
set_option linter.all false
set_option maxRecDepth 100000
set_option maxHeartbeats 4000000
set_option autoImplicit false
/-! The head: from what it tells to the table of the defs, to the law's promise. -/
namespace RB
open PySem PySem.Spec PyProof.Rows L2 He NdefX

def exR (K : PySem.W.Frag) : Nat → Option (Addr × List Str)
  | 1 => some (ga K "BadNumber", ["value"])
  | 3 => some (ga K "BadBits", ["place"])
  | _ => none
def excR (x : Str) : Option (Nat × Nat) := if x = "BadNumber" then some (1, 1) else if x = "BadBits" then some (3, 1) else none
def lawAt : Defn := ("law", none)
def lamNm : Nat → Nat → Str := fun _ _ => "law.<locals>.<lambda>"
def hdR (K : PySem.W.Frag) : Hd := ⟨K, fun _ _ _ => False, fun _ => none, fun _ => none, [((cT K lawAt).2, lamNm)]⟩
def exB (P : Program) (K : PySem.W.Frag) : Bool := ownA P K "BadNumber" ["value"] && (ownA P K "BadBits" ["place"] && ((refKinds.all fun x => (Fa.glo x).ok K) && (Fa.glo "RowError").ok K))
def DefX.dd (d : DefX) : DefD := ⟨(d.x, none), d.x, d.x, ⟨[], d.as, none, [], d.kwd, none, []⟩, d.bd, d.sc, [], []⟩
def toldBody (k1 k2 : Nat) (p : Nat → Pos) : List Stmt := [.Try [.Return (some (.Tuple [.Constant (.str "told") k1 (p 1), .Call (.Name "call" (p 2)) [] [] (p 3)] k2 (p 4))) (p 5)] [.ExceptHandler (some (.Name "RowError" (p 6))) (some "e") [.Return (some (.Call (.Name "_law_refusal" (p 7)) [.Name "e" (p 8)] [] (p 9))) (p 10)] (p 11)] [] [] (p 12)]
/-- the law's two helpers -/
structure Hlp where
  asT : List Arg
  kwT : List (Option Expr)
  scT : Scope
  k1 : Nat
  k2 : Nat
  pT : Nat → Pos
  asR : List Arg
  kwR : List (Option Expr)
  scR : Scope
  pR : Nat → Pos
def Hlp.dT (z : Hlp) : DefD := ⟨("_law_told", none), "_law_told", "_law_told", ⟨[], z.asT, none, [], z.kwT, none, []⟩, toldBody z.k1 z.k2 z.pT, z.scT, [], []⟩
def Hlp.dR (z : Hlp) : DefD := ⟨("_law_refusal", none), "_law_refusal", "_law_refusal", ⟨[], z.asR, none, [], z.kwR, none, []⟩, refBody z.pR, z.scR, [], []⟩
def Hlp.okB (z : Hlp) : Bool := decide (z.asT.map (·.arg) = [("call" : Str)]) && fnScB ["call", "e"] ["call"] z.scT && decide (z.scT.names.lookup ("call" : Str) = some .local) && decide (z.scT.names.lookup ("e" : Str) = some .local) && decide (z.scT.names.lookup ("RowError" : Str) = some .globalImplicit) && decide (z.scT.names.lookup ("_law_refusal" : Str) = some .globalImplicit) &&
  decide (z.asR.map (·.arg) = [("e" : Str)]) && fnScB ["e", "kinds", "marks", "name"] ["e"] z.scR && (refNs.all fun y => decide (z.scR.names.lookup y.1 = some y.2)) && ((z.pR 53).endLine == (z.pR 55).line) && ((z.pR 71).endLine == (z.pR 73).line)
def faR (ds : List DefX) (gl : List (Str × Int)) : List Fa := ds.map (fun d => Fa.glo d.x) ++ ([Fa.glo "_law_told", Fa.glo "_law_refusal", Fa.free "super", Fa.free "ValueError"] ++ (blt.map Fa.free ++ gl.map fun p => Fa.int p.1 p.2))
def fnR (ds : List DefX) (z : Hlp) : List DefD := ds.map DefX.dd ++ [z.dT, z.dR]
def glbR (gl : List (Str × Int)) (x : Str) : Option Nat := gl.findIdx? fun p => p.1 == x
section
variable {Pg : Program} {w : World} {K : PySem.W.Frag} {mg : Str → Option Value} {base h : Heap} {B : Base} {ds : List DefX} {gl : List (Str × Int)} {z : Hlp}
theorem fun_binds {x : Str} {as : List Arg} {kwd : List (Option Expr)} {bd : List Stmt} {sc : Scope} {f : Addr} {fd : FuncData} (F : FunD K x x ⟨[], as, none, [], kwd, none, []⟩ bd sc [] [] f fd) (nd : (as.map (·.arg)).Nodup) :
    ∃ (oc : Value) (od : Option Addr) (kV doc pm : Value) (an : Option Addr) (cdv ct : Value) (osl : Array (Option Value)), K.lookup f = some ⟨oc, od, .func (PySem.W.fnOf x x ⟨[], as, none, [], kwd, none, []⟩ bd sc .none kV doc pm an cdv ct), osl⟩ ∧ PySem.W.codeIn K cdv x = true ∧ fd = PySem.W.fnOf x x ⟨[], as, none, [], kwd, none, []⟩ bd sc .none kV doc pm an cdv ct ∧
      ∀ us : List Value, us.length = (as.map (·.arg)).length → bindArgs (PySem.W.fnOf x x ⟨[], as, none, [], kwd, none, []⟩ bd sc .none kV doc pm an cdv ct) ⟨us, []⟩ = pure ((as.map (·.arg)).zip us) := by
  obtain ⟨oc, od, dV, kV, doc, pm, an, cdv, ct, osl, rfl, lk, hcd, hD, _⟩ := F.ex
  rcases hD with ⟨_, rfl⟩ | ⟨e, _⟩
  · exact ⟨oc, od, kV, doc, pm, an, cdv, ct, osl, lk, hcd, rfl, fun us hl => binds_plain nd hl⟩
  · exact absurd rfl e
theorem refE_of (KX : K.In h) (Gm : h.Ns mainGlobals mg) (hB : exB Pg K = true) (fi : mg "isinstance" = none) (fv : mg "ValueError" = none) : RefE K mg (exR K) (fun i => ga K (refKinds.getD i "")) := by
  unfold exB at hB
  simp only [Bool.and_eq_true] at hB
  obtain ⟨b1, b2, b3, _⟩ := hB
  have o1 := ownA_ok b1
  have o3 := ownA_ok b2
  have cs : ∀ k D ps, exR K k = some (D, ps) → (k = 1 ∧ D = ga K "BadNumber" ∧ ps = [("value" : Str)]) ∨ (k = 3 ∧ D = ga K "BadBits" ∧ ps = [("place" : Str)]) := fun k D ps hk => by
    match k, hk with
    | 1, hk => cases hk; exact .inl ⟨rfl, rfl, rfl⟩
    | 3, hk => cases hk; exact .inr ⟨rfl, rfl, rfl⟩
  refine ⟨fun k D ps hk => ?_, fun k D ps hk => ?_, fun k D ps hk => ?_, fun k D ps hk i hi => ?_, fun k D ps hk => ?_, fun i x hx => ?_, fi, fv⟩
  · rcases cs k D ps hk with ⟨h1, _, h3⟩ | ⟨h1, _, h3⟩
    · exact .inl ⟨h1, h3⟩
    · exact .inr ⟨h1, h3⟩
  · rcases cs k D ps hk with ⟨_, rfl, _⟩ | ⟨_, rfl, _⟩
    · exact o1.exc
    · exact o3.exc
  · rcases cs k D ps hk with ⟨_, rfl, rfl⟩ | ⟨_, rfl, rfl⟩
    · exact o1.no
    · exact o3.no
  · rcases cs k D ps hk with ⟨rfl, rfl, rfl⟩ | ⟨rfl, rfl, rfl⟩
    · rw [o1.one i hi]
      match i, hi with
      | 0, _ | 1, _ | 2, _ | 3, _ | 4, _ | 5, _ | 6, _ | 7, _ | 8, _ => decide +kernel
    · rw [o3.one i hi]
      match i, hi with
      | 0, _ | 1, _ | 2, _ | 3, _ | 4, _ | 5, _ | 6, _ | 7, _ | 8, _ => decide +kernel
  · rcases cs k D ps hk with ⟨_, rfl, _⟩ | ⟨_, rfl, _⟩
    · exact o1.val
    · exact o3.val
  · have e : refKinds.getD i "" = x := by rw [List.getD_eq_getElem?_getD, hx]; rfl
    rw [e]
    exact glo_ok KX Gm (List.all_eq_true.mp b3 x (List.mem_of_getElem? hx))
theorem told_of (KX : K.In h) (Gm : h.Ns mainGlobals mg) (c : SaysR (faR ds gl) (fnR ds z) [lawAt] (exB Pg) h K) (tB : ∀ p ∈ [cT K lawAt], LamX.TabB base mg p.1 p.2) (hz : z.okB = true) (hgl : ∀ i, B.glb i = (gl[i]?).map fun p => .int p.2)
    (href : ∀ k v, B.ref k [v] = some (.tup [.str (refKinds.getD k "").cps.toList, v]) ∨ B.ref k [v] = none) (hm : ∀ d ∈ ds, d.mkl = true → d.x = "law") (hsu : (Pg.main.scope.names.lookup ("super" : Str)).isSome = false) :
    Told Pg w K mg base B (hdR K) (cxG (hdR K) (exR K)) ds (glbR gl) excR true := by
  have fact : ∀ {f : Fa}, f ∈ faR ds gl → f.ok K = true := fun hf => c.t.facts hf
  have free : ∀ x ∈ blt, mg x = none := fun x hx => free_ok KX Gm (fact (List.mem_append_right _ (List.mem_append_right _ (List.mem_append_left _ (List.mem_map_of_mem hx)))))
  have mid : ∀ {f : Fa}, f ∈ [Fa.glo "_law_told", Fa.glo "_law_refusal", Fa.free "super", Fa.free "ValueError"] → f.ok K = true := fun hf => fact (List.mem_append_right _ (List.mem_append_left _ hf))
  have fsu : mg "super" = none := free_ok KX Gm (mid (.tail _ (.tail _ (.head _))))
  have fve : mg "ValueError" = none := free_ok KX Gm (mid (.tail _ (.tail _ (.tail _ (.head _)))))
  have gT := glo_ok KX Gm (mid (.head _))
  have gR := glo_ok KX Gm (mid (.tail _ (.head _)))
  have hB := c.more
  have hB' := hB
  unfold exB at hB'
  simp only [Bool.and_eq_true] at hB'
  obtain ⟨b1, b2, b3, b4⟩ := hB'
  have o1 := ownA_ok b1
  have o3 := ownA_ok b2
  have gRow := glo_ok KX Gm b4
  have cs : ∀ k D ps, exR K k = some (D, ps) → (k = 1 ∧ D = ga K "BadNumber" ∧ ps = [("value" : Str)]) ∨ (k = 3 ∧ D = ga K "BadBits" ∧ ps = [("place" : Str)]) := fun k D ps hk => by
    match k, hk with
    | 1, hk => cases hk; exact .inl ⟨rfl, rfl, rfl⟩
    | 3, hk => cases hk; exact .inr ⟨rfl, rfl, rfl⟩
  refine ⟨rfl, fun i d hd => ?_, free, fun x i hx => ?_, fun x k n hx => ?_, fun _ => ⟨?_⟩, fun i d f fd hd hk hmg F => ?_⟩
  · have hd' := List.mem_of_getElem? hd
    obtain ⟨fd, F⟩ := c.t.defs (d := d.dd) (List.mem_append_left _ (List.mem_map_of_mem hd'))
    exact ⟨ga K d.x, fd, glo_ok KX Gm (fact (List.mem_append_left _ (List.mem_map_of_mem (f := fun d : DefX => Fa.glo d.x) hd'))), F⟩
  · obtain ⟨hl, hp, _⟩ := List.findIdx?_eq_some_iff_getElem.mp hx
    have hx2 : gl[i].1 = x := by simpa using hp
    obtain ⟨t, ht⟩ := He.int_ok KX Gm (fact (List.mem_append_right _ (List.mem_append_right _ (List.mem_append_right _ (List.mem_map_of_mem (f := fun p : Str × Int => Fa.int p.1 p.2) (List.getElem_mem hl))))))
    rw [hx2] at ht
    exact ⟨.int gl[i].2, .int gl[i].2, _, ht, ⟨t, rfl⟩, by rw [hgl, List.getElem?_eq_getElem hl]; rfl, fun F M => rep_int.mpr rfl⟩
  · unfold excR at hx
    split at hx
    · rename_i e
      subst e
      cases hx
      obtain ⟨fd, hI⟩ := o1.init mg hsu fsu
      exact ⟨_, _, fd, _, rfl, glo_ok KX Gm o1.glo, hI, o1.ini, o1.ty, fun w d vs us e1 e2 e3 => ⟨_, d, _, us, rfl, rfl, rfl, e1, e2, e3⟩⟩
    · split at hx
      · rename_i e
        subst e
        cases hx
        obtain ⟨fd, hI⟩ := o3.init mg hsu fsu
        exact ⟨_, _, fd, _, rfl, glo_ok KX Gm o3.glo, hI, o3.ini, o3.ty, fun w d vs us e1 e2 e3 => ⟨_, d, _, us, rfl, rfl, rfl, e1, e2, e3⟩⟩
      · cases hx
  · unfold Hlp.okB at hz
    simp only [Bool.and_eq_true, decide_eq_true_eq] at hz
    obtain ⟨⟨⟨⟨⟨⟨⟨⟨⟨⟨z1, z2⟩, z3⟩, z4⟩, z5⟩, z6⟩, z7⟩, z8⟩, z9⟩, z10⟩, z11⟩ := hz
    obtain ⟨fdT, FT⟩ := c.t.defs (d := z.dT) (List.mem_append_right _ (.head _))
    obtain ⟨fdR, FR⟩ := c.t.defs (d := z.dR) (List.mem_append_right _ (.tail _ (.head _)))
    obtain ⟨oc, od, kV, doc, pm, an, cdv, ct, osl, lk, hcd, _, hb⟩ := fun_binds FT (by rw [z1]; decide)
    obtain ⟨oc', od', kV', doc', pm', an', cdv', ct', osl', lk', hcd', _, hb'⟩ := fun_binds FR (by rw [z7]; decide)
    rw [z1] at hb
    rw [z7] at hb'
    have R := refE_of KX Gm hB (free _ (by decide)) fve
    have RO : RefOk Pg w K mg base (hdR K) (cxG (hdR K) (exR K)) B (ga K "_law_refusal") := refusal_ok lk' hcd' (fnSc_ok z8) (fun us hl => hb' us hl) R (fun y hy => of_decide_eq_true (List.all_eq_true.mp z9 y hy)) z10 z11 href
    exact ⟨ga K "_law_told", ga K "_law_refusal", ga K "RowError", _, _, z.scT, _, kV, doc, pm, cdv, ct, oc, an, od, osl, z.k1, z.k2, _, _, _, _, _, _, _, _, _, _, _, _, gT, FT.kp, gR, FR.kp, gRow, lk, hcd, fnSc_ok z2, z3, z4, z5, z6, fun us hl => hb us hl, RO, fun k vs w cls d hcx => by
      obtain ⟨C, d', ps, us, h1, h2, _⟩ := hcx
      rw [h2]
      rcases cs _ _ _ h1 with ⟨_, rfl, _⟩ | ⟨_, rfl, _⟩
      · exact o1.row
      · exact o3.row⟩
  · have hx := hm d (List.mem_of_getElem? hd) hk
    have hf : f = ga K "law" := by
      have := glo_ok KX Gm (fact (List.mem_append_left _ (List.mem_map_of_mem (f := fun d : DefX => Fa.glo d.x) (List.mem_of_getElem? hd))))
      rw [hmg] at this
      rw [hx] at this
      exact Value.ref.inj (Option.some.inj this)
    subst hf
    obtain ⟨oc, od, dV, kV, doc, pm, an, cdv, ct, osl, efd, lk, hcd, _⟩ := F.ex
    obtain ⟨cc, hc⟩ := codeIn_ref hcd
    have ec : fd.code = .ref cc := by rw [efd]; exact hc
    have e2 : codeOf K lawAt = cc := codeOf_eq (K := K) (p := lawAt) lk ec
    refine ⟨cc, (cT K lawAt).2, lamNm, ?_, ec, List.mem_cons_self, fun l k => ?_, fun p hp _ => ?_⟩
    · have := tB (cT K lawAt) List.mem_cons_self
      rw [show (cT K lawAt).1 = cc from e2] at this
      exact this
    · rw [hx]
      rfl
    · rcases List.mem_cons.mp hp with rfl | hp
      · rfl
      · cases hp
theorem end_at {P : Program} {mb : Str → Option Value} {k : Nat} {fa a cA T : Addr} {fd : FuncData} {x : Str} {sp : Sp} {s₁ : Shared} {vs : List Value} {ns : List Int} (KX : K.In s₁.heap) (hns : s₁.heap.Ns mainGlobals mg) (hb : s₁.heap.Ns builtinsNs mb) (hbb : ∀ x : Str, x ≠ "__name__" → mb x = bootBuiltins x) (hlim : s₁.heap.NoLimit) (hg : s₁.gens = #[])
    (hT : s₁.heap.get? T = some { cls := .none, data := .fields #[] }) (nT : K.lookup T = none) (C : PySem.W.CodeHd s₁.heap cA T) (hbm : ∃ (bm : Addr) (ob : Obj), mg "__builtins__" = some (.ref bm) ∧ bm ≠ builtinsNs ∧ s₁.heap.get? bm = some ob ∧ ob.cls = .type "module" ∧ ob.dict = some builtinsNs ∧ ob.data = .plain)
    (ha : s₁.heap.get? a = some { cls := .type "list", data := .seq vs.toArray }) (hi : IntsAre vs ns) (hl : ns.length ≤ sizeLine) (hr : Room k callerA)
    (F : ∀ base : Heap, K.In base → base.Ns mainGlobals mg → LamX.TabB base mg cA T → FnAt P w K mg base (L2.CX P w) callerA k fa fd [x] sp) (hbind : ∀ (s : Shared) (u : Value), BindsTo s fd ⟨[u], []⟩ [(x, u)])
    (hsp : ∀ H : Hp, H T = some (.tbl #[]) → SqL K H a (ns.map V.int) → sp [.ref a] H (fun v _ => v = .bl true) fun _ _ _ => False) :
    codeAny (model P w) callerA (.call (.ref fa) ⟨[.ref a], []⟩) (fun r s' => r = .ok (.ret (.bool true)) ∧ OldK s₁.heap s'.heap ∧ s'.os = s₁.os ∧ AllBare s'.gens) s₁ := by
  have rv := vals_ints hi
  have aT : a ≠ T := fun z => by rw [z, hT] at ha; cases ha
  obtain ⟨H, hHT, hS, hof, hfree⟩ : ∃ H : Hp, H T = some (.tbl #[]) ∧ SqL K H a (ns.map V.int) ∧ (∀ b u, H b = some u → (b = a ∧ u = .frz { cls := .type "list", data := .seq vs.toArray } (.lst (ns.map V.int))) ∨ (b = T ∧ u = .tbl #[])) ∧ (H a ≠ none → K.lookup a = none) := by
    cases hk : K.lookup a with
    | some o =>
      have e := KX a o hk
      rw [ha] at e
      cases e
      refine ⟨fun b => if b = T then some (.tbl #[]) else none, if_pos rfl, .inr ⟨_, vs.toArray, _, hk, rfl, rfl, rfl, by rw [List.size_toArray, hi.length]; exact hl, by simpa using rv⟩, fun b u z => ?_, fun z => absurd (if_neg aT) z⟩
      dsimp only at z
      split at z
      · rename_i e; cases z; exact .inr ⟨e, rfl⟩
      · cases z
    | none =>
      refine ⟨fun b => if b = a then some (.frz { cls := .type "list", data := .seq vs.toArray } (.lst (ns.map V.int))) else if b = T then some (.tbl #[]) else none, (if_neg (Ne.symm aT)).trans (if_pos rfl), .inl (.inr ⟨_, if_pos rfl⟩), fun b u z => ?_, fun _ => rfl⟩
      dsimp only at z
      split at z
      · rename_i e; cases z; exact .inl ⟨e, rfl⟩
      · split at z
        · rename_i e; cases z; exact .inr ⟨e, rfl⟩
        · cases z
  have hok : HOk P w H s₁.heap := fun b u e => by
    rcases hof b u e with ⟨rfl, rfl⟩ | ⟨rfl, rfl⟩
    · exact ⟨ha, by rw [List.length_map]; exact hl, vs, _, rv, ha⟩
    · exact hT
  -- what is no list and no empty table is untracked
  have un : ∀ {b : Addr} {o : Obj}, s₁.heap.get? b = some o → (∀ its n, o.data ≠ .seq its n) → o.data ≠ .fields #[] → H b = none := fun {b o} e n1 n2 => by
    cases q : H b with
    | none => rfl
    | some u =>
      rcases hof b u q with ⟨rfl, _⟩ | ⟨rfl, _⟩
      · rw [ha] at e; cases e; exact absurd rfl (n1 _ _)
      · rw [hT] at e; cases e; exact absurd rfl n2
  have ns_of : ∀ {b : Addr} {m : Str → Option Value}, s₁.heap.Ns b m → (hidT s₁.heap H).Ns b m := fun {b m} ⟨o, es, ep, e, d, r⟩ => ⟨o, es, ep, hidT_get e (un e (fun _ _ z => by rw [d] at z; cases z) fun z => by rw [d] at z; cases z), d, r⟩
  have kin : K.In (hidT s₁.heap H) := fun b o e => hidT_get (KX b o e) (by
    cases q : H b with
    | none => rfl
    | some u =>
      rcases hof b u q with ⟨rfl, _⟩ | ⟨rfl, _⟩
      · rw [hfree (by rw [q]; simp)] at e; cases e
      · rw [nT] at e; cases e)
  have nG : mainGlobals ≠ T := fun z => by
    obtain ⟨o, es, ep, e, hd, _⟩ := hns
    rw [z, hT] at e
    cases e
    cases hd
  have tab : LamX.TabB (hidT s₁.heap H) mg cA T := by
    obtain ⟨o, us, file, tf, flags, tg, inF, text, tt, e1, r1, r2, r3, rest⟩ := C
    refine ⟨⟨o, us, file, tf, flags, tg, inF, text, tt, hidT_get e1 (un e1 (fun _ _ z => by rw [r2] at z; cases z) fun z => by rw [r2] at z; cases z; simp at r3), r1, r2, r3, rest⟩, ?_, nG⟩
    obtain ⟨bm, ob, b1, b2, b3, b4, b5, b6⟩ := hbm
    refine ⟨bm, ob, b1, b2, fun q => ?_, fun q => ?_, hidT_get b3 (un b3 (fun _ _ z => by rw [b6] at z; cases z) fun z => by rw [b6] at z; cases z), b4, b5, b6⟩
    · obtain ⟨o, es, ep, e, hd, _⟩ := hns
      rw [q, e] at b3
      cases b3
      rw [hd] at b6
      cases b6
    · rw [q, hT] at b3
      cases b3
      cases b6
  have md : L2.Mod K mg (hidT s₁.heap H) := ⟨kin, ns_of hns, ⟨mb, ns_of hb, hbb⟩, let ⟨mc, q1, q2⟩ := hlim; ⟨mc, ns_of q1, q2⟩⟩
  have e0 : Env0 P w K mg (hidT s₁.heap H) callerA [] s₁ H := ⟨rfl, md, fun b o e => of_hidT e, Nat.le_of_eq (hidT_size _ _), trivial, fun b hb => absurd (show b ∈ ([] : List Addr) from hb) (by simp), hok, .of_eq hg⟩
  refine codeAny_mono ((F _ kin (ns_of hns) tab).run [] s₁ H ⟨[.ref a], []⟩ [.ref a] [.ref a] _ _ hr e0 (hbind s₁ (.ref a)) (.cons rfl .nil) (hsp H hHT hS)) fun r s' h => ?_
  cases r with
  | error e => exact (cx_none h).elim
  | ok fl =>
    cases fl with
    | next => exact False.elim h
    | brk => exact False.elim h
    | cont => exact False.elim h
    | ret u =>
      obtain ⟨v, H', os, bare, g, hok', r', q⟩ := h
      obtain rfl : v = .bl true := q
      obtain rfl : u = Value.bool true := r'
      have grown : ∃ more : Array Value, s'.heap.get? T = some { cls := .none, data := .fields more } := by
        obtain ⟨more, z⟩ := g.tbls T #[] hHT
        exact ⟨_, hok' T _ z⟩
      have kept : ∀ b o, b ≠ T → s₁.heap.get? b = some o → s'.heap.get? b = some o := fun b o nb e => by
        cases q : H b with
        | none => exact g.keep b o e q (by intro z; exact absurd (show b ∈ ([] : List Addr) from z) (by simp)) (by simp)
        | some u =>
          rcases hof b u q with ⟨rfl, rfl⟩ | ⟨rfl, _⟩
          · obtain ⟨e1, _⟩ := hok b _ q
            obtain ⟨e2, _⟩ := hok' b _ (g.frzs b _ _ q)
            rw [e] at e1; cases e1
            exact e2
          · exact absurd rfl nb
      obtain ⟨more, hm⟩ := grown
      refine ⟨rfl, ⟨fun b o e => ?_, fun b o e => ?_⟩, os, bare⟩
      · by_cases nb : b = T
        · subst nb
          rw [hT] at e
          cases e
          exact .inr (.inl ⟨(C.tab hT).isCodeTable, rfl, #[], more, rfl, by rw [Array.empty_append]; exact hm⟩)
        · exact .inl (kept b o nb e)
      · by_cases nb : b = T
        · subst nb; exact ⟨_, hm⟩
        · exact ⟨o, kept b o nb e⟩
/-- what is asked of the text of _law_same -/
structure SameT (p : Nat → Pos) (d : DefX) : Prop where
  bd : d.bd = sameBody p
  as : d.as.map (·.arg) = [("found" : Str), "due"]
  sc : fnScB ["found", "due"] ["found", "due"] d.sc = true
  l1 : d.sc.names.lookup ("found" : Str) = some .local
  l2 : d.sc.names.lookup ("due" : Str) = some .local
  l3 : d.sc.names.lookup ("repr" : Str) = some .globalImplicit
theorem law_walk {l : PySem.W.OpenLaw} {q : Program} {loose : List Str} {XP : (Str → Option Value) → Heap → Prop} {YP : World → Heap → Prop} {dr : DefRec} {n kk i : Nat} {d : DefX} {pS : Nat → Pos} (hn : l.most = some n) (hn2 : n ≤ sizeLine) (hdf : dr.params.defaults = []) (hr : Room (lev (kk + 2)) callerA) (hdn : dr.name = ("law" : Str))
    (hY : ∀ (w : World) (h : Heap), YP w h → ∃ K : PySem.W.Frag, K.In h ∧ SaysR (faR ds gl) (fnR ds z) [lawAt] (exB l.prog) h K) (hz : z.okB = true) (hgl : ∀ i, B.glb i = (gl[i]?).map fun p => .int p.2)
    (href : ∀ k v, B.ref k [v] = some (.tup [.str (refKinds.getD k "").cps.toList, v]) ∨ B.ref k [v] = none) (hm : ∀ d ∈ ds, d.mkl = true → d.x = "law") (hsu : (l.prog.main.scope.names.lookup ("super" : Str)).isSome = false) (hok : ∀ d ∈ ds, okDef (pcOf ds (glbR gl) excR true) d = true)
    (hsame : ∀ d ∈ ds, d.same = true → SameT pS d) (hi : ds[i]? = some d) (hx : d.x = "law") (hns : d.same = false) (hps : d.ps = [("script" : Str)])
    (hmath : ∀ ns : List Int, ns.length ≤ n → (∀ z ∈ ns, Builtin.Int.intBits z ≤ 1048576) → ∃ S', run ⟨B, ds.map (·.fn)⟩ (kk + 2) i [.scr ns] [] = .ok (.bl true) S') :
    PySem.W.WalkO q loose XP YP l.row.toRowW dr [] (fun f vs => PySem.call f vs) := by
  refine Att.attach_callB hn hdf fun w s₀ s₁ mg mb fa o pm cd doc a vs ns G Y ho hd hcd hmg0 hobj hints hlen hbits hg => ?_
  obtain ⟨K, KX, c⟩ := hY w _ Y
  have hmg : mg ("law" : Str) = some (.ref fa) := by rw [← hdn]; exact hmg0
  have Gm := G.T.g
  have hd' := List.mem_of_getElem? hi
  obtain ⟨fd, F⟩ := c.t.defs (d := d.dd) (List.mem_append_left _ (List.mem_map_of_mem hd'))
  have hga : mg d.x = some (.ref (ga K d.x)) := glo_ok KX Gm (c.t.facts (List.mem_append_left _ (List.mem_map_of_mem (f := fun d : DefX => Fa.glo d.x) hd')))
  have hfa : fa = ga K d.x := by
    rw [hx, hmg] at hga
    rw [hx]
    exact Value.ref.inj (Option.some.inj hga)
  subst hfa
  have F : FunD K d.x d.x ⟨[], d.as, none, [], d.kwd, none, []⟩ d.bd d.sc [] [] (ga K d.x) fd := F
  have nd : (d.as.map (·.arg)).Nodup := by rw [show d.as.map (·.arg) = d.ps from rfl, hps]; decide
  have hl1 : d.as.length = 1 := by
    have := congrArg List.length hps
    simpa [DefX.ps] using this
  have bind := FunD.bindsA (ps := d.ps) F fun _ _ _ _ _ _ us hl => binds_plain nd hl
  refine end_at KX Gm G.T.b G.T.builtins G.T.nolimit hg (c.empty lawAt List.mem_cons_self) (c.out lawAt List.mem_cons_self) (PySem.W.codeHd_of_K KX (c.hd lawAt List.mem_cons_self)) G.T.bmain hobj hints (Nat.le_trans hlen hn2) hr
    (x := "script") (fd := fd) (sp := spG (hdR K) (cxG (hdR K) (exR K)) d.as.length (run ⟨B, ds.map (·.fn)⟩ (kk + 2) i)) (fun base KXb Gb tB => ?_) (fun s u => ?_) (fun H hT hS => ?_)
  · have Tl := told_of (Pg := l.prog) (w := w) (base := base) KX Gm c (fun p hp => by rw [List.mem_singleton.mp hp]; exact tB) hz hgl href hm hsu
    have := law_ok Tl hok (fun A hA i' d' f' fd' e1 e2 e3 e4 => by
      have T := hsame d' (List.mem_of_getElem? e1) e2
      obtain ⟨t1, t2, t3, t4, t5, t6⟩ := T
      rw [t1] at e4
      exact RB.same_ok rfl hA e4 t2 (fnSc_ok t3) t4 t5 t6 (Tl.bt _ (by decide))) (A := callerA) rfl kk hi hns hga F
    rw [hps] at this
    exact this
  · have := bind s [u] (by rw [hps]; rfl)
    rw [hps] at this
    exact this
  · obtain ⟨S', hr⟩ := hmath ns hlen hbits
    obtain ⟨F0, f1, f2, f3⟩ : ∃ F0 : Hp, Sub F0 H ∧ (∀ b ps, F0 b ≠ some (.tbl ps)) ∧ SqL K F0 a (ns.map V.int) := by
      rcases hS with hR | hK
      · refine ⟨fun b => if b = a then H a else none, fun b o e => ?_, fun b ps e => ?_, .inl ?_⟩
        · dsimp only at e
          split at e
          · rename_i hb2; rw [hb2]; exact e
          · cases e
        · dsimp only at e
          split at e
          · rcases hR with hR | ⟨o, hR⟩ <;> rw [hR] at e <;> cases e
          · cases e
        · rcases hR with hR | ⟨o, hR⟩
          · exact .inl ((if_pos rfl).trans hR)
          · exact .inr ⟨o, (if_pos rfl).trans hR⟩
      · exact ⟨fun _ => none, fun _ _ e => (nomatch e), fun _ _ e => (nomatch e), Or.inr hK⟩
    refine ⟨⟨F0, H, [], []⟩, [.scr ns], rfl, ⟨f1, List.nodup_nil, rfl, fun n a so h1 h2 => by simp at h1, fun p hp => ?_, f2⟩, ?_, hl1.symm ▸ rfl, ?_⟩
    · rw [List.mem_singleton.mp hp]
      exact TabN.nil hT
    · simp only [RepL, RepV]
      exact ⟨.ref a, [], rfl, ⟨a, rfl, f3⟩, rfl⟩
    · dsimp only
      rw [hr]
      intro w' v _ _ _ rv
      exact rep_bl.mp rv
end
end RB

set_option linter.all false
set_option maxRecDepth 100000
set_option maxHeartbeats 4000000
set_option autoImplicit false
/-! Plain tools for reckoning with the small language. -/
namespace RB

/-! ### running a def -/
theorem run_code {P : Prog} {k i np n : Nat} {ds : List D} {S : Store} {lams : List I} {body : T} (h : P.fns[i]? = some (.code np n lams body)) (hl : ds.length = np) :
    run P (k + 1) i ds S = endOf (ex (callsIn P.B lams (run P k)) P.B body (startEnv n ds) S) := by
  show callFn P (run P k) i ds S = _
  unfold callFn
  rw [h]
  exact if_pos hl
theorem run_same {P : Prog} {k i : Nat} {x y : D} {S : Store} (h : P.fns[i]? = some .same) (e : sameD x y = some true) : run P (k + 1) i [x, y] S = .ok (.bl true) S := by
  show callFn P (run P k) i [x, y] S = _
  unfold callFn
  rw [h]
  show R.of ((sameD x y).map D.bl) S = _
  rw [e]
  rfl

/-! ### statements, one behind another -/
section
variable {C : Calls} {B : Base} {a b : T} {ρ ρ1 : Env} {S S1 : Store} {d : D}
theorem ex_seq (h : ex C B a ρ S = .ok (.nx ρ1) S1) : ex C B (.seq a b) ρ S = ex C B b ρ1 S1 := by
  simp only [ex, h, bind_ok]
theorem ex_seq_rt (h : ex C B a ρ S = .ok (.rt d) S1) : ex C B (.seq a b) ρ S = .ok (.rt d) S1 := by
  simp only [ex, h, bind_ok]
theorem ex_seq_ex {c : Nat} {vs : List D} (h : ex C B a ρ S = .ex c vs S1) : ex C B (.seq a b) ρ S = .ex c vs S1 := by
  simp only [ex, h, bind_ex]
end

/-! ### comprehensions -/
theorem comp_map {tg : Tg} {f : Env → Store → R (Option D)} {ρ : Env} {S : Store} (g : D → Option D) : ∀ (ds : List D), (∀ d ∈ ds, ∃ ρ1, setT tg d ρ = some ρ1 ∧ f ρ1 S = .ok (g d) S) → comp tg f ds ρ S = .ok (ds.filterMap g) S
  | [], _ => rfl
  | d :: ds, h => by
    obtain ⟨ρ1, h1, h2⟩ := h d List.mem_cons_self
    have ih := comp_map g ds fun e he => h e (List.mem_cons_of_mem _ he)
    unfold comp
    simp only [h1, h2, noEx_ok, bind_ok, ih, List.filterMap_cons]
    cases g d <;> rfl
theorem comp_pure {tg : Tg} {ge : Env → Store → R D} {ρ : Env} {S : Store} {ds : List D} (g : D → D) (h : ∀ d ∈ ds, ∃ ρ1, setT tg d ρ = some ρ1 ∧ ge ρ1 S = .ok (g d) S) : comp tg (compF yesG ge) ds ρ S = .ok (ds.map g) S := by
  rw [comp_map (fun d => some (g d)) ds fun d hd => ?_]
  · rw [List.filterMap_eq_map']
  · obtain ⟨ρ1, h1, h2⟩ := h d hd
    exact ⟨ρ1, h1, by simp only [compF, yesG, bind_ok, toBl, if_true, h2]⟩
theorem comp_filter {tg : Tg} {gc ge : Env → Store → R D} {ρ : Env} {S : Store} {ds : List D} (p : D → Bool) (g : D → D) (h : ∀ d ∈ ds, ∃ ρ1, setT tg d ρ = some ρ1 ∧ gc ρ1 S = .ok (.bl (p d)) S ∧ (p d = true → ge ρ1 S = .ok (g d) S)) :
    comp tg (compF gc ge) ds ρ S = .ok ((ds.filter p).map g) S := by
  rw [comp_map (fun d => if p d then some (g d) else none) ds fun d hd => ?_]
  · congr 1
    clear h
    induction ds with
    | nil => rfl
    | cons d ds ih =>
      rw [List.filterMap_cons, List.filter_cons, ih]
      cases p d <;> rfl
  · obtain ⟨ρ1, h1, h2, h3⟩ := h d hd
    refine ⟨ρ1, h1, ?_⟩
    simp only [compF, h2, bind_ok, toBl]
    cases e : p d with
    | false => rfl
    | true => simp only [if_true, h3 e, bind_ok]
@[simp] theorem getV_zero (x : Option D) (ρ : Env) : getV (x :: ρ) 0 = x := by
  cases x <;> rfl
@[simp] theorem getV_succ (x : Option D) (ρ : Env) (n : Nat) : getV (x :: ρ) (n + 1) = getV ρ n := rfl
theorem startEnv_of {n : Nat} {ds : List D} : startEnv n ds = ds.map some ++ List.replicate (n - ds.length) none := rfl
theorem all_bl {α : Type} (f : α → Bool) (xs : List α) : bi .all (.lst (xs.map fun x => .bl (f x))) = some (.bl (xs.all f)) := by
  have h : blsOf (xs.map fun x => .bl (f x)) = some (xs.map f) := by
    induction xs with
    | nil => rfl
    | cons x xs ih => simp [blsOf, ih]
  simp only [bi, h, Option.map_some]
  congr 2
  induction xs with
  | nil => rfl
  | cons x xs ih => simp [List.all_cons]
theorem strsOf_map {α : Type} (f : α → List Nat) (xs : List α) : strsOf (xs.map fun x => .str (f x)) = some (xs.map f) := by
  induction xs with
  | nil => rfl
  | cons x xs ih => simp [strsOf, ih]
theorem intsOf_map {α : Type} (f : α → Int) (xs : List α) : intsOf (xs.map fun x => .int (f x)) = some (xs.map f) := by
  induction xs with
  | nil => rfl
  | cons x xs ih => simp [intsOf, ih]
theorem joinS_nil : ∀ ss : List (List Nat), joinS [] ss = ss.flatten
  | [] => rfl
  | [x] => by simp [joinS]
  | x :: y :: r => by
    rw [joinS, joinS_nil (y :: r)]
    rfl
theorem compL_ok {ds : List D} {S : Store} (h : ds.length ≤ LIM) : compL (.ok ds S) = .ok (.lst ds) S := by
  simp only [compL, bind_ok, if_pos h]
/-- what draws within a comprehension give -/
theorem comp_inv {tg : Tg} {f : Env → Store → R (Option D)} {ρ : Env} (p : Store → Prop) (q : D → Prop) : ∀ (ds : List D) (S : Store), p S → (∀ d ∈ ds, ∀ S, p S → ∃ ρ1 e S1, setT tg d ρ = some ρ1 ∧ f ρ1 S = .ok (some e) S1 ∧ p S1 ∧ q e) →
    ∃ es S1, comp tg f ds ρ S = .ok es S1 ∧ p S1 ∧ es.length = ds.length ∧ ∀ e ∈ es, q e
  | [], S, hp, _ => ⟨[], S, rfl, hp, rfl, by simp⟩
  | d :: ds, S, hp, h => by
    obtain ⟨ρ1, e, S1, h1, h2, h3, h4⟩ := h d List.mem_cons_self S hp
    obtain ⟨es, S2, i1, i2, i3, i4⟩ := comp_inv p q ds S1 h3 fun e he => h e (List.mem_cons_of_mem _ he)
    refine ⟨e :: es, S2, ?_, i2, by simp [i3], fun x hx => ?_⟩
    · unfold comp
      simp only [h1, h2, noEx_ok, bind_ok, i1]
      rfl
    · rcases List.mem_cons.mp hx with rfl | hx
      · exact h4
      · exact i4 x hx

/-! ### loops -/
/-- a loop whose turns all go on: what holds between them -/
theorem loopF_inv {tg : Tg} {b : Env → Store → R Fl} (p : Nat → Env → Store → Prop) : ∀ (ds : List D) (k : Nat) (ρ : Env) (S : Store), p k ρ S → (∀ (i : Nat) (d : D) (ρ : Env) (S : Store), ds[i]? = some d → p (k + i) ρ S → ∃ ρ1 ρ2 S2, setT tg d ρ = some ρ1 ∧ b ρ1 S = .ok (.nx ρ2) S2 ∧ p (k + i + 1) ρ2 S2) →
    ∃ ρ' S', loopF tg b ds ρ S = .ok (.nx ρ') S' ∧ p (k + ds.length) ρ' S'
  | [], k, ρ, S, hp, _ => ⟨ρ, S, rfl, hp⟩
  | d :: ds, k, ρ, S, hp, h => by
    obtain ⟨ρ1, ρ2, S2, h1, h2, h3⟩ := h 0 d ρ S rfl hp
    obtain ⟨ρ', S', i1, i2⟩ := loopF_inv p ds (k + 1) ρ2 S2 (by simpa using h3) fun i d ρ S hd hq => by
      obtain ⟨ρ1, ρ2, S2, a, b, c⟩ := h (i + 1) d ρ S (by simpa using hd) (by rwa [show k + (i + 1) = k + 1 + i by omega])
      exact ⟨ρ1, ρ2, S2, a, b, by rwa [show k + 1 + i + 1 = k + (i + 1) + 1 by omega]⟩
    refine ⟨ρ', S', ?_, by rw [List.length_cons, show k + (ds.length + 1) = k + 1 + ds.length by omega]; exact i2⟩
    unfold loopF
    simp only [h1, h2, bind_ok, i1]
/-! ### rules of reckoning: expressions -/
section
variable {C : Calls} {B : Base} {ρ : Env} {S S1 S2 S3 S4 : Store} {a b c e : I} {x y z d : D} {o o2 : BOp} {q q2 : COp} {i f l : Nat} {p r t : Bool} {ds : List D}
theorem v_cst : ev C B (.cst d) ρ S = .ok d S := rfl
theorem v_var (h : getV ρ i = some d) : ev C B (.var i) ρ S = .ok d S := by
  show R.of (getV ρ i) S = _
  rw [h]
  rfl
theorem v_own {xs : List D} (h : getV ρ i = some (.lst xs)) : ev C B (.own i) ρ S = .ok (.lst xs) S := by
  show R.of (getL ρ i) S = _
  unfold getL
  rw [h]
  rfl
theorem v_glb (h : B.glb i = some d) : ev C B (.glb i) ρ S = .ok d S := by
  show R.of (B.glb i) S = _
  rw [h]
  rfl
theorem v_bin (ha : ev C B a ρ S = .ok x S1) (hb : ev C B b ρ S1 = .ok y S2) (h : bin o x y = some z) : ev C B (.bin o a b) ρ S = .ok z S2 := by
  simp only [ev, ha, hb, bind_ok, h, of_some]
theorem v_neg {n m : Int} (ha : ev C B a ρ S = .ok (.int n) S1) (hz : -n = m := by rfl) : ev C B (.neg a) ρ S = .ok (.int m) S1 := by
  subst hz
  simp only [ev, ha, bind_ok]
theorem v_not (ha : ev C B a ρ S = .ok (.bl p) S1) (hz : (!p) = r := by rfl) : ev C B (.not a) ρ S = .ok (.bl r) S1 := by
  subst hz
  simp only [ev, ha, bind_ok, toBl]
theorem v_cmp (ha : ev C B a ρ S = .ok x S1) (hb : ev C B b ρ S1 = .ok y S2) (h : cmpD q x y = some p) : ev C B (.cmp q a b) ρ S = .ok (.bl p) S2 := by
  simp only [ev, ha, hb, bind_ok, h, of_some, Option.map_some]
theorem v_chn (ha : ev C B a ρ S = .ok x S1) (hb : ev C B b ρ S1 = .ok y S2) (h : cmpD q x y = some p) (hc : p = true → ev C B c ρ S2 = .ok z S2) (hr : p = true → cmpD q2 y z = some r) (hz : (p && r) = t := by rfl) : ev C B (.chn q q2 a b c) ρ S = .ok (.bl t) S2 := by
  subst hz
  simp only [ev, ha, hb, bind_ok, h]
  cases p with
  | false => rfl
  | true => simp only [hc rfl, hr rfl, bind_ok, of_some, Option.map_some, Bool.true_and]
theorem v_and (ha : ev C B a ρ S = .ok (.bl p) S1) (hb : p = true → ev C B b ρ S1 = .ok (.bl r) S1) (hz : (p && r) = t := by rfl) : ev C B (.and a b) ρ S = .ok (.bl t) S1 := by
  subst hz
  simp only [ev, ha, bind_ok, toBl]
  cases p with
  | false => rfl
  | true => simpa using hb rfl
theorem v_or (ha : ev C B a ρ S = .ok (.bl p) S1) (hb : p = false → ev C B b ρ S1 = .ok (.bl r) S1) (hz : (p || r) = t := by rfl) : ev C B (.or a b) ρ S = .ok (.bl t) S1 := by
  subst hz
  simp only [ev, ha, bind_ok, toBl]
  cases p with
  | true => rfl
  | false => simpa using hb rfl
theorem v_and_f (ha : ev C B a ρ S = .ok (.bl false) S1) : ev C B (.and a b) ρ S = .ok (.bl false) S1 := by
  simp only [ev, ha, bind_ok, toBl, Bool.false_eq_true, if_false]
theorem v_and_t (ha : ev C B a ρ S = .ok (.bl true) S1) (hb : ev C B b ρ S1 = .ok y S2) : ev C B (.and a b) ρ S = .ok y S2 := by
  simp only [ev, ha, bind_ok, toBl, if_true, hb]
theorem v_or_t (ha : ev C B a ρ S = .ok (.bl true) S1) : ev C B (.or a b) ρ S = .ok (.bl true) S1 := by
  simp only [ev, ha, bind_ok, toBl, if_true]
theorem v_or_f (ha : ev C B a ρ S = .ok (.bl false) S1) (hb : ev C B b ρ S1 = .ok y S2) : ev C B (.or a b) ρ S = .ok y S2 := by
  simp only [ev, ha, bind_ok, toBl, Bool.false_eq_true, if_false, hb]
theorem v_one (ha : ev C B a ρ S = .ok x S1) : ev C B (.one a) ρ S = .ok x S1 := by
  simp only [ev, ha]
theorem v_ife (hc : ev C B c ρ S = .ok (.bl p) S1) (ha : p = true → ev C B a ρ S1 = .ok x S2) (hb : p = false → ev C B b ρ S1 = .ok x S2) : ev C B (.ife c a b) ρ S = .ok x S2 := by
  simp only [ev, hc, bind_ok, toBl]
  cases p with
  | false => simpa using hb rfl
  | true => simpa using ha rfl
theorem vs_nil : evs C B .nil ρ S = .ok [] S := rfl
theorem vs_cons (ha : ev C B a ρ S = .ok x S1) (hb : evs C B b ρ S1 = .ok ds S2) : evs C B (.cons a b) ρ S = .ok (x :: ds) S2 := by
  simp only [evs, ha, hb, bind_ok]
theorem v_tup (h : evs C B a ρ S = .ok ds S1) : ev C B (.tup a) ρ S = .ok (.tup ds) S1 := by
  simp only [ev, h, bind_ok]
theorem v_lst (h : evs C B a ρ S = .ok ds S1) : ev C B (.lst a) ρ S = .ok (.lst ds) S1 := by
  simp only [ev, h, bind_ok]
theorem v_idx (ha : ev C B a ρ S = .ok x S1) (hb : ev C B b ρ S1 = .ok y S2) (h : idxS S2 x y = some z) : ev C B (.idx a b) ρ S = .ok z S2 := by
  simp only [ev, ha, hb, bind_ok, h, of_some]
theorem vp_nil : evp C B .nil ρ S = .ok none S := rfl
theorem vp_prt {n : Int} (h : ev C B a ρ S = .ok (.int n) S1) : evp C B (.prt a) ρ S = .ok (some n) S1 := by
  simp only [evp, h, bind_ok]
theorem v_slc {m n : Option Int} (ha : ev C B a ρ S = .ok x S1) (hb : evp C B b ρ S1 = .ok m S2) (hc : evp C B c ρ S2 = .ok n S3) (h : slcD x m n = some z) : ev C B (.slc a b c) ρ S = .ok z S3 := by
  simp only [ev, ha, hb, hc, bind_ok, h, of_some]
theorem v_rev (ha : ev C B a ρ S = .ok x S1) (h : revD x = some z) : ev C B (.rev a) ρ S = .ok z S1 := by
  simp only [ev, ha, bind_ok, h, of_some]
theorem v_call (ha : evs C B a ρ S = .ok ds S1) (h : C.fn f ds S1 = .ok z S2) : ev C B (.call f a) ρ S = .ok z S2 := by
  simp only [ev, ha, bind_ok, h]
theorem v_call_ex {k : Nat} {vs : List D} (ha : evs C B a ρ S = .ok ds S1) (h : C.fn f ds S1 = .ex k vs S2) : ev C B (.call f a) ρ S = .ex k vs S2 := by
  simp only [ev, ha, bind_ok, h]
theorem c_call {B : Base} {lams : List I} {P : Prog} {k : Nat} (ha : evs (callsIn B lams (run P k)) B a ρ S = .ok ds S1) (h : run P k f ds S1 = .ok z S2) : ev (callsIn B lams (run P k)) B (.call f a) ρ S = .ok z S2 := v_call ha h
theorem c_call_ex {B : Base} {lams : List I} {P : Prog} {k c : Nat} {vs : List D} (ha : evs (callsIn B lams (run P k)) B a ρ S = .ok ds S1) (h : run P k f ds S1 = .ex c vs S2) : ev (callsIn B lams (run P k)) B (.call f a) ρ S = .ex c vs S2 := v_call_ex ha h
theorem v_bi {m : Bi} (ha : ev C B a ρ S = .ok x S1) (h : bi m x = some z) : ev C B (.bi m a) ρ S = .ok z S1 := by
  simp only [ev, ha, bind_ok, h, of_some]
theorem v_bi2 {m : Bi2} (ha : ev C B a ρ S = .ok x S1) (hb : ev C B b ρ S1 = .ok y S2) (h : bi2 m x y = some z) : ev C B (.bi2 m a b) ρ S = .ok z S2 := by
  simp only [ev, ha, hb, bind_ok, h, of_some]
theorem v_mth {m : Bi2} (ha : ev C B a ρ S = .ok x S1) (hr : recvOk m x = true) (hb : ev C B b ρ S1 = .ok y S2) (h : bi2 m x y = some z) : ev C B (.mth m a b) ρ S = .ok z S2 := by
  simp only [ev, ha, hb, bind_ok, h, of_some, hr, if_true]
theorem v_srt (ha : ev C B a ρ S = .ok x S1) (h : bi .sortset x = some z) : ev C B (.srt a) ρ S = .ok z S1 := by
  simp only [ev, ha, bind_ok, h, of_some]
theorem v_isi {ts : List Ty} (ha : ev C B a ρ S = .ok x S1) (h : typed x = true) (hz : ts.any (isTy x) = t := by rfl) : ev C B (.isi a ts) ρ S = .ok (.bl t) S1 := by
  subst hz
  simp only [ev, ha, bind_ok, h, if_true]
theorem v_cmp0 {tg : Tg} {es : List D} (hi : evi C B a ρ S = .ok ds S1) (h : comp tg (compF yesG (ev C B e)) ds (wipeE ρ (slotsT tg)) S1 = .ok es S2) (hl : es.length ≤ LIM) : ev C B (.cmp0 e tg a) ρ S = .ok (.lst es) S2 := by
  simp only [ev, hi, bind_ok, h, compL_ok hl]
theorem v_cmp1 {tg : Tg} {es : List D} (hi : evi C B a ρ S = .ok ds S1) (h : comp tg (compF (ev C B c) (ev C B e)) ds (wipeE ρ (slotsT tg)) S1 = .ok es S2) (hl : es.length ≤ LIM) : ev C B (.cmp1 e tg a c) ρ S = .ok (.lst es) S2 := by
  simp only [ev, hi, bind_ok, h, compL_ok hl]
theorem v_told (h : ev C B e ρ S = .ok d S1) : ev C B (.told e) ρ S = .ok (.tup [.str [116, 111, 108, 100], d]) S1 := by
  simp only [ev, h, toldR]
theorem v_told_ex {k : Nat} {vs : List D} (h : ev C B e ρ S = .ex k vs S1) (hr : B.ref k vs = some d) : ev C B (.told e) ρ S = .ok d S1 := by
  simp only [ev, h, toldR, hr, of_some]
theorem v_tolds {vs : List D} (h : getV ρ i = some (.clo l vs)) (ht : C.tl l ρ S = .ok ds S1) : ev C B (.tolds i l) ρ S = .ok (.lst ds) S1 := by
  simp only [ev, h, if_true, ht, bind_ok]
theorem tl_nil : toldL C B .nil ρ S = .ok [] S := rfl
theorem tl_ok (h : ev C B a ρ S = .ok x S1) (hb : toldL C B b ρ S1 = .ok ds S2) : toldL C B (.cons a b) ρ S = .ok (.tup [.str [116, 111, 108, 100], x] :: ds) S2 := by
  simp only [toldL, h, toldR, bind_ok, hb]
theorem tl_ex {k : Nat} {vs : List D} (h : ev C B a ρ S = .ex k vs S1) (hr : B.ref k vs = some x) (hb : toldL C B b ρ S1 = .ok ds S2) : toldL C B (.cons a b) ρ S = .ok (x :: ds) S2 := by
  simp only [toldL, h, toldR, hr, of_some, bind_ok, hb]
theorem vi_L (h : ev C B a ρ S = .ok (.lst ds) S1) : evi C B (.seqL a) ρ S = .ok ds S1 := by
  simp only [evi, h, bind_ok]
theorem vi_T (h : ev C B a ρ S = .ok (.tup ds) S1) : evi C B (.seqT a) ρ S = .ok ds S1 := by
  simp only [evi, h, bind_ok]
theorem vi_S {s : List Nat} (h : ev C B a ρ S = .ok (.str s) S1) : evi C B (.seqS a) ρ S = .ok (signsOf s) S1 := by
  simp only [evi, h, bind_ok]
theorem vi_r1 {n : Int} (h : ev C B a ρ S = .ok (.int n) S1) (hn : n.natAbs ≤ LIM) : evi C B (.rng1 a) ρ S = .ok (upto 0 n.toNat) S1 := by
  simp only [evi, h, bind_ok, if_pos hn]
theorem vi_r2 {m n : Int} (h : ev C B a ρ S = .ok (.int m) S1) (h2 : ev C B b ρ S1 = .ok (.int n) S2) (hm : m.natAbs ≤ LIM) (hn : n.natAbs ≤ LIM) : evi C B (.rng2 a b) ρ S = .ok (upto m (n - m).toNat) S2 := by
  simp only [evi, h, h2, bind_ok, if_pos (And.intro hm hn)]
theorem vi_zip (ha : ev C B a ρ S = .ok x S1) (hb : ev C B b ρ S1 = .ok y S2) (h : zipOf x y = some ds) : evi C B (.zip a b) ρ S = .ok ds S2 := by
  simp only [evi, ha, hb, bind_ok, h, of_some]
theorem vi_eS {s : List Nat} (h : ev C B a ρ S = .ok (.str s) S1) (hl : s.length ≤ LIM) : evi C B (.enumS a) ρ S = .ok (enumD 0 (signsOf s)) S1 := by
  simp only [evi, h, bind_ok, if_pos hl]
theorem vi_eL (h : ev C B a ρ S = .ok (.lst ds) S1) : evi C B (.enumL a) ρ S = .ok (enumD 0 ds) S1 := by
  simp only [evi, h, bind_ok]
theorem vi_eT (h : ev C B a ρ S = .ok (.tup ds) S1) : evi C B (.enumT a) ρ S = .ok (enumD 0 ds) S1 := by
  simp only [evi, h, bind_ok]
end

/-! ### statements -/
section
variable {C : Calls} {B : Base} {ρ ρ1 : Env} {S S1 S2 S3 S4 : Store} {a b e : I} {s t u : T} {x y z d : D} {i j : Nat} {p : Bool} {ds : List D} {f : Fl}
theorem x_skip : ex C B .skip ρ S = .ok (.nx ρ) S := rfl
theorem x_asg (h : ev C B e ρ S = .ok d S1) (hi : i < ρ.length) : ex C B (.asg i e) ρ S = .ok (.nx (ρ.set i (some d))) S1 := by
  simp only [ex, h, bind_ok, setI, if_pos hi]
theorem x_asgC (h : ev C B e ρ S = .ok d S1) (hi : i < ρ.length) : ex C B (.asgC i e) ρ S = .ok (.nx (ρ.set i (some d))) S1 := by
  simp only [ex, h, bind_ok, setI, if_pos hi]
theorem x_asgT {tg : Tg} (h : ev C B e ρ S = .ok d S1) (hi : setT tg d ρ = some ρ1) : ex C B (.asgT tg e) ρ S = .ok (.nx ρ1) S1 := by
  simp only [ex, h, bind_ok, hi, of_some]
theorem x_par {is : List Nat} (h : evs C B a ρ S = .ok ds S1) (hi : setAll is ds ρ = some ρ1) : ex C B (.par is a) ρ S = .ok (.nx ρ1) S1 := by
  simp only [ex, h, bind_ok, hi, of_some]
theorem x_aug {o : BOp} {m n : Int} (hv : getV ρ i = some (.int m)) (h : ev C B e ρ S = .ok (.int n) S1) (hz : bin o (.int m) (.int n) = some z) (hi : i < ρ.length) : ex C B (.aug i o e) ρ S = .ok (.nx (ρ.set i (some z))) S1 := by
  simp only [ex, hv, h, bind_ok, hz, of_some, setI, if_pos hi]
theorem x_own (h : evs C B a ρ S = .ok ds S1) (hi : i < ρ.length) : ex C B (.own i a) ρ S = .ok (.nx (ρ.set i (some (.lst ds)))) S1 := by
  simp only [ex, h, bind_ok, setI, if_pos hi]
theorem x_app {xs : List D} (hv : getV ρ i = some (.lst xs)) (h : ev C B e ρ S = .ok d S1) (hl : xs.length < LIM) (hi : i < ρ.length) : ex C B (.app i e) ρ S = .ok (.nx (ρ.set i (some (.lst (xs ++ [d]))))) S1 := by
  simp only [ex, hv, h, bind_ok, if_pos hl, setI, if_pos hi]
theorem x_sto (h : evs C B a ρ S = .ok ds S1) (hi : i < ρ.length) : ex C B (.sto i a) ρ S = .ok (.nx (ρ.set i (some (.ref S1.length)))) (S1 ++ [.lst ds]) := by
  simp only [ex, h, bind_ok, setI, if_pos hi]
theorem x_setS {n : Nat} {k : Int} {xs ys : List D} (h : ev C B e ρ S = .ok d S1) (ha : ev C B a ρ S1 = .ok (.ref n) S2) (hb : ev C B b ρ S2 = .ok (.int k) S3) (hn : S3[n]? = some (.lst xs)) (hy : setAt xs k d = some ys) : ex C B (.setS a b e) ρ S = .ok (.nx ρ) (S3.set n (.lst ys)) := by
  simp only [ex, h, ha, hb, bind_ok, hn, hy, of_some]
theorem x_expr (h : ev C B e ρ S = .ok d S1) : ex C B (.expr e) ρ S = .ok (.nx ρ) S1 := by
  simp only [ex, h, bind_ok]
theorem x_expr_ex {k : Nat} {vs : List D} (h : ev C B e ρ S = .ex k vs S1) : ex C B (.expr e) ρ S = .ex k vs S1 := by
  simp only [ex, h, bind_ex]
theorem x_ife_t (h : ev C B e ρ S = .ok (.bl true) S1) : ex C B (.ife e s t) ρ S = ex C B s ρ S1 := by
  simp only [ex, h, bind_ok, toBl, if_true]
theorem x_ife_f (h : ev C B e ρ S = .ok (.bl false) S1) : ex C B (.ife e s t) ρ S = ex C B t ρ S1 := by
  simp only [ex, h, bind_ok, toBl, Bool.false_eq_true, if_false]
theorem x_ret (h : ev C B e ρ S = .ok d S1) : ex C B (.ret e) ρ S = .ok (.rt d) S1 := by
  simp only [ex, h, bind_ok]
theorem x_ret_ex {k : Nat} {vs : List D} (h : ev C B e ρ S = .ex k vs S1) : ex C B (.ret e) ρ S = .ex k vs S1 := by
  simp only [ex, h, bind_ex]
theorem x_retO {xs : List D} (h : getV ρ i = some (.lst xs)) : ex C B (.retO i) ρ S = .ok (.rt (.lst xs)) S := by
  simp only [ex, getL, h, of_some, bind_ok]
theorem x_rse {k : Nat} (h : evs C B a ρ S = .ok ds S1) : ex C B (.rse k a) ρ S = .ex k ds S1 := by
  simp only [ex, h, bind_ok]
theorem x_lams (hi : i < ρ.length) : ex C B (.lams i j) ρ S = .ok (.nx (ρ.set i (some (.clo j [])))) S := by
  simp only [ex, setI, if_pos hi]
theorem x_for {tg : Tg} {ρ' : Env} (hi : evi C B a ρ S = .ok ds S1) (h : loopF tg (ex C B s) ds ρ S1 = .ok (.nx ρ') S2) : ex C B (.for tg a s) ρ S = .ok (.nx ρ') S2 := by
  simp only [ex, hi, bind_ok, h]
theorem seq_end (h : ex C B s ρ S = .ok (.nx ρ1) S1) : ex C B (.seq s .skip) ρ S = .ok (.nx ρ1) S1 := by
  rw [ex_seq h]
  rfl
/-- if c: return e, the rest -/
theorem x_ifret (h : ev C B e ρ S = .ok (.bl p) S1) (ht : p = true → ev C B a ρ S1 = .ok d S2) (hf : p = false → ex C B t ρ S1 = .ok (.rt d) S2) : ex C B (.seq (.ife e (.seq (.ret a) .skip) .skip) t) ρ S = .ok (.rt d) S2 := by
  cases p with
  | true => exact ex_seq_rt (by rw [x_ife_t h]; exact ex_seq_rt (x_ret (ht rfl)))
  | false => rw [ex_seq (by rw [x_ife_f h]; exact x_skip)]; exact hf rfl
end
theorem endOf_rt {d : D} {S : Store} : endOf (.ok (.rt d) S) = .ok d S := rfl
theorem endOf_nx {ρ : Env} {S : Store} : endOf (.ok (.nx ρ) S) = .ok .non S := rfl
section
variable {P : Prog} {k i np n : Nat} {ds : List D} {S S1 : Store} {lams : List I} {body : T} {d : D} {ρ : Env}
theorem run_rt (h : P.fns[i]? = some (.code np n lams body)) (hl : ds.length = np) (hx : ex (callsIn P.B lams (run P k)) P.B body (startEnv n ds) S = .ok (.rt d) S1) : run P (k + 1) i ds S = .ok d S1 := by
  rw [run_code h hl, hx]
  rfl
theorem run_nx (h : P.fns[i]? = some (.code np n lams body)) (hl : ds.length = np) (hx : ex (callsIn P.B lams (run P k)) P.B body (startEnv n ds) S = .ok (.nx ρ) S1) : run P (k + 1) i ds S = .ok .non S1 := by
  rw [run_code h hl, hx]
  rfl
theorem run_ex {c : Nat} {vs : List D} (h : P.fns[i]? = some (.code np n lams body)) (hl : ds.length = np) (hx : ex (callsIn P.B lams (run P k)) P.B body (startEnv n ds) S = .ex c vs S1) : run P (k + 1) i ds S = .ex c vs S1 := by
  rw [run_code h hl, hx]
  rfl
end
theorem endOf_ex {c : Nat} {vs : List D} {S : Store} : endOf (.ex c vs S) = .ex c vs S := rfl
end RB

set_option linter.all false
set_option maxRecDepth 100000
set_option autoImplicit false
namespace RB.K16
def b_is_whole : T := (.seq (.ret (.and (.isi (.var 0) [.int]) (.one (.not (.isi (.var 0) [.bool])))))
  .skip)
def b_is_within : T := (.seq (.ret (.and (.call 0 (.cons (.var 0) .nil)) (.one (.chn .le .le (.var 1) (.var 0) (.var 2)))))
  .skip)
def b_are_bits : T := (.seq (.ret (.and (.isi (.var 0) [.str]) (.one (.bi .all (.cmp0 (.cmp .inn (.var 1) (.cst (.str [48, 49]))) (.nm 1) (.seqS (.var 0)))))))
  .skip)
def b_is_guard : T := (.seq (.ife (.or (.not (.call 2 (.cons (.var 0) .nil))) (.one (.not (.chn .le .le (.cst (.int 2)) (.bi .len (.var 0)) (.bin .add (.glb 0) (.cst (.int 1))))))) (.seq (.ret (.cst (.bl false)))
  .skip) .skip)
  (.seq (.ret (.and (.cmp .eq (.idx (.var 0) (.cst (.int 0))) (.cst (.str [49]))) (.one (.cmp .eq (.idx (.var 0) (.neg (.cst (.int 1)))) (.cst (.str [49]))))))
  .skip))
def b_need_guard : T := (.seq (.ife (.not (.call 3 (.cons (.var 0) .nil))) (.seq (.rse 1 (.cons (.var 0) .nil))
  .skip) .skip)
  .skip)
def b_need_bits : T := (.seq (.ife (.or (.not (.call 2 (.cons (.var 0) .nil))) (.one (.cmp .gt (.bi .len (.var 0)) (.glb 1)))) (.seq (.rse 1 (.cons (.var 0) .nil))
  .skip) .skip)
  .skip)
def b_rest_of : T := (.seq (.par [2, 3, 4] (.cons (.call 7 (.cons (.var 0) .nil)) (.cons (.bin .sub (.bi .len (.var 0)) (.cst (.int 1))) (.cons (.cst (.int 0)) .nil))))
  (.seq (.for (.nm 5) (.seqS (.var 1)) (.seq (.asg 4 (.bin .add (.bin .mul (.cst (.int 2)) (.var 4)) (.bi .int (.var 5))))
  (.seq (.ife (.cmp .eq (.bin .shr (.var 4) (.var 3)) (.cst (.int 1))) (.seq (.asg 4 (.bin .xor (.var 4) (.var 2)))
  .skip) .skip)
  .skip)))
  (.seq (.ret (.var 4))
  .skip)))
def b_int_of : T := (.seq (.asg 1 (.cst (.int 0)))
  (.seq (.for (.nm 2) (.seqS (.var 0)) (.seq (.asg 1 (.bin .add (.bin .mul (.cst (.int 2)) (.var 1)) (.bi .int (.var 2))))
  .skip))
  (.seq (.ret (.var 1))
  .skip)))
def b_check_bits : T := (.seq (.expr (.call 4 (.cons (.var 0) .nil)))
  (.seq (.expr (.call 5 (.cons (.var 1) .nil)))
  (.seq (.asg 2 (.bin .sub (.bi .len (.var 0)) (.cst (.int 1))))
  (.seq (.asg 3 (.call 6 (.cons (.var 0) (.cons (.bin .add (.var 1) (.bin .mul (.cst (.str [48])) (.var 2))) .nil))))
  (.seq (.ret (.mth .join (.cst (.str [])) (.cmp0 (.bi .str (.bin .band (.bin .shr (.var 3) (.bin .sub (.bin .sub (.var 2) (.cst (.int 1))) (.var 4))) (.cst (.int 1)))) (.nm 4) (.rng1 (.var 2)))))
  .skip)))))
def b_guarded : T := (.seq (.ret (.bin .add (.var 1) (.call 8 (.cons (.var 0) (.cons (.var 1) .nil)))))
  .skip)
def b_is_guarded : T := (.seq (.expr (.call 4 (.cons (.var 0) .nil)))
  (.seq (.ife (.or (.not (.call 2 (.cons (.var 1) .nil))) (.one (.not (.chn .le .le (.bin .sub (.bi .len (.var 0)) (.cst (.int 1))) (.bi .len (.var 1)) (.bin .add (.glb 1) (.glb 0)))))) (.seq (.ret (.cst (.bl false)))
  .skip) .skip)
  (.seq (.ret (.cmp .eq (.call 6 (.cons (.var 0) (.cons (.var 1) .nil))) (.cst (.int 0))))
  .skip)))
def b_flipped : T := (.seq (.ife (.not (.call 12 (.cons (.var 1) (.cons (.bi .len (.var 0)) .nil)))) (.seq (.rse 1 (.cons (.var 1) .nil))
  .skip) .skip)
  (.seq (.ret (.mth .join (.cst (.str [])) (.cmp0 (.ife (.cmp .inn (.var 2) (.var 1)) (.bi .str (.bin .sub (.cst (.int 1)) (.bi .int (.var 3)))) (.var 3)) (.tp (.cons (.nm 2) (.cons (.nm 3) .nil))) (.enumS (.var 0)))))
  .skip))
def b_are_places : T := (.seq (.ife (.or (.not (.isi (.var 0) [.tuple])) (.one (.not (.bi .all (.cmp0 (.call 1 (.cons (.var 2) (.cons (.cst (.int 0)) (.cons (.bin .sub (.var 1) (.cst (.int 1))) .nil)))) (.nm 2) (.seqT (.var 0))))))) (.seq (.ret (.cst (.bl false)))
  .skip) .skip)
  (.seq (.ret (.bi .all (.cmp0 (.cmp .lt (.var 3) (.var 4)) (.tp (.cons (.nm 3) (.cons (.nm 4) .nil))) (.zip (.var 0) (.slc (.var 0) (.prt (.cst (.int 1))) .nil)))))
  .skip))
def b_are_unseen : T := (.seq (.expr (.call 4 (.cons (.var 0) .nil)))
  (.seq (.expr (.call 14 (.cons (.var 0) (.cons (.var 1) .nil))))
  (.seq (.ife (.not (.call 12 (.cons (.var 2) (.cons (.var 1) .nil)))) (.seq (.rse 1 (.cons (.var 2) .nil))
  .skip) .skip)
  (.seq (.ret (.cmp .eq (.call 6 (.cons (.var 0) (.cons (.mth .join (.cst (.str [])) (.cmp0 (.ife (.cmp .inn (.var 3) (.var 2)) (.cst (.str [49])) (.cst (.str [48]))) (.nm 3) (.rng1 (.var 1)))) .nil))) (.cst (.int 0))))
  .skip))))
def b_need_many : T := (.seq (.ife (.not (.call 1 (.cons (.var 1) (.cons (.bin .sub (.bi .len (.var 0)) (.cst (.int 1))) (.cons (.bin .add (.glb 1) (.glb 0)) .nil))))) (.seq (.rse 1 (.cons (.var 1) .nil))
  .skip) .skip)
  .skip)
def b__law_taken : T := (.seq (.ife (.cmp .gt (.idx (.var 0) (.cst (.int 3))) (.cst (.int 0))) (.seq (.asg 2 (.bin .mod (.bi .int (.idx (.var 0) (.cst (.int 3)))) (.var 1)))
  (.seq (.setS (.var 0) (.cst (.int 3)) (.bin .fdiv (.idx (.var 0) (.cst (.int 3))) (.var 1)))
  (.seq (.ret (.var 2))
  .skip))) .skip)
  (.seq (.setS (.var 0) (.cst (.int 1)) (.bin .add (.idx (.var 0) (.cst (.int 1))) (.cst (.int 1))))
  (.seq (.ife (.cmp .gt (.idx (.var 0) (.cst (.int 1))) (.bi .len (.idx (.var 0) (.cst (.int 0))))) (.seq (.setS (.var 0) (.cst (.int 2)) (.bin .mod (.bi .int (.bin .add (.bin .mul (.idx (.var 0) (.cst (.int 2))) (.cst (.int 48271))) (.cst (.int 11)))) (.cst (.int 2147483647))))
  (.seq (.ret (.bin .mod (.bi .int (.bin .fdiv (.idx (.var 0) (.cst (.int 2))) (.cst (.int 7)))) (.var 1)))
  .skip)) .skip)
  (.seq (.asg 3 (.idx (.idx (.var 0) (.cst (.int 0))) (.bin .sub (.idx (.var 0) (.cst (.int 1))) (.cst (.int 1)))))
  (.seq (.setS (.var 0) (.cst (.int 2)) (.bin .mod (.bi .int (.bin .add (.bin .add (.bin .mul (.idx (.var 0) (.cst (.int 2))) (.cst (.int 48271))) (.var 3)) (.cst (.int 11)))) (.cst (.int 2147483647))))
  (.seq (.ife (.cmp .ge (.var 3) (.bin .pow (.cst (.int 10)) (.cst (.int 18)))) (.seq (.setS (.var 0) (.cst (.int 3)) (.bin .fdiv (.var 3) (.var 1)))
  (.seq (.ret (.bin .mod (.bi .int (.var 3)) (.var 1)))
  .skip)) .skip)
  (.seq (.ret (.bin .mod (.bi .int (.bin .add (.bin .mul (.bin .mod (.bi .int (.var 3)) (.cst (.int 1000003))) (.cst (.int 31))) (.bin .fdiv (.idx (.var 0) (.cst (.int 2))) (.cst (.int 11))))) (.var 1)))
  .skip)))))))
def b__law_pick : T := (.seq (.ret (.idx (.var 1) (.call 15 (.cons (.var 0) (.cons (.bi .len (.var 1)) .nil)))))
  .skip)
def b__law_alike : T := (.seq (.ife (.isi (.var 1) [.tuple, .list]) (.seq (.ife (.or (.not (.isi (.var 0) [.tuple, .list])) (.one (.cmp .ne (.isi (.var 0) [.list]) (.isi (.var 1) [.list])))) (.seq (.ret (.cst (.bl false)))
  .skip) .skip)
  (.seq (.ife (.cmp .ne (.bi .len (.var 0)) (.bi .len (.var 1))) (.seq (.ret (.cst (.bl false)))
  .skip) .skip)
  (.seq (.ret (.cmp .eq (.cmp1 (.var 2) (.nm 2) (.rng1 (.bi .len (.var 1))) (.not (.call 17 (.cons (.idx (.var 0) (.var 2)) (.cons (.idx (.var 1) (.var 2)) .nil))))) (.lst .nil)))
  .skip))) .skip)
  (.seq (.ife (.or (.cmp .iss (.var 1) (.cst .non)) (.one (.isi (.var 1) [.str]))) (.seq (.ret (.and (.cmp .eq (.var 0) (.var 1)) (.one (.cmp .eq (.isi (.var 0) [.str]) (.isi (.var 1) [.str])))))
  .skip) .skip)
  (.seq (.ret (.and (.isi (.var 0) [.int]) (.and (.cmp .eq (.isi (.var 0) [.bool]) (.isi (.var 1) [.bool])) (.one (.cmp .eq (.var 0) (.var 1))))))
  .skip)))
def b__law_power : T := (.seq (.asg 2 (.cst (.int 1)))
  (.seq (.for (.nm 3) (.rng1 (.var 1)) (.seq (.asg 2 (.bin .mul (.var 2) (.var 0)))
  .skip))
  (.seq (.ret (.var 2))
  .skip)))
def b__law_binary : T := (.seq (.ret (.mth .join (.cst (.str [])) (.cmp0 (.bi .str (.bin .mod (.bin .fdiv (.var 0) (.call 19 (.cons (.cst (.int 2)) (.cons (.bin .sub (.bin .sub (.var 1) (.cst (.int 1))) (.var 2)) .nil)))) (.cst (.int 2)))) (.nm 2) (.rng1 (.var 1)))))
  .skip)
def b__law_odd_bits : T := (.seq (.ret (.call 16 (.cons (.var 0) (.cons (.lst (.cons (.cst .non) (.cons (.cst (.int 0)) (.cons (.cst (.str [50])) (.cons (.cst (.str [48, 49, 97])) (.cons (.tup (.cons (.cst (.str [48])) .nil)) (.cons (.lst (.cons (.cst (.str [48])) .nil)) (.cons (.cst (.bl true)) (.cons (.cst (.str [48, 32, 49])) (.cons (.cst (.str [32])) (.cons (.cst (.str [111])) .nil))))))))))) .nil))))
  .skip)
def b__law_rest : T := (.seq (.asgT (.tp (.cons (.nm 2) (.cons (.nm 3) .nil))) (.tup (.cons (.bin .sub (.bi .len (.var 0)) (.cst (.int 1))) (.cons (.cst (.str [])) .nil))))
  (.seq (.for (.nm 4) (.seqS (.var 1)) (.seq (.asg 3 (.bin .add (.var 3) (.var 4)))
  (.seq (.ife (.and (.cmp .gt (.bi .len (.var 3)) (.var 2)) (.one (.cmp .eq (.idx (.var 3) (.cst (.int 0))) (.cst (.str [49]))))) (.seq (.asg 3 (.mth .join (.cst (.str [])) (.cmp0 (.bi .str (.bin .mod (.bin .add (.bi .int (.idx (.var 3) (.var 5))) (.bi .int (.idx (.var 0) (.var 5)))) (.cst (.int 2)))) (.nm 5) (.rng1 (.bi .len (.var 3))))))
  .skip) .skip)
  (.seq (.asg 3 (.ife (.cmp .gt (.bi .len (.var 3)) (.var 2)) (.slc (.var 3) (.prt (.cst (.int 1))) .nil) (.var 3)))
  .skip))))
  (.seq (.ret (.bin .add (.bin .mul (.cst (.str [48])) (.bin .sub (.var 2) (.bi .len (.var 3)))) (.var 3)))
  .skip)))
def b__law_check : T := (.seq (.ret (.call 22 (.cons (.var 0) (.cons (.bin .add (.var 1) (.bin .mul (.cst (.str [48])) (.bin .sub (.bi .len (.var 0)) (.cst (.int 1))))) .nil))))
  .skip)
def b__law_guard : T := (.seq (.ret (.bin .add (.bin .add (.cst (.str [49])) (.slc (.call 20 (.cons (.call 15 (.cons (.var 0) (.cons (.cst (.int 128)) .nil))) (.cons (.cst (.int 7)) .nil))) .nil (.prt (.call 15 (.cons (.var 0) (.cons (.cst (.int 8)) .nil)))))) (.cst (.str [49]))))
  .skip)
def b__law_odd_guard : T := (.seq (.ret (.call 16 (.cons (.var 0) (.cons (.lst (.cons (.cst .non) (.cons (.cst (.str [])) (.cons (.cst (.str [49])) (.cons (.cst (.str [49, 48])) (.cons (.cst (.str [48, 49, 49])) (.cons (.cst (.str [49, 48, 48, 48, 48, 48, 48, 48, 48, 49])) (.cons (.cst (.int 11)) (.cons (.tup (.cons (.cst (.str [49])) (.cons (.cst (.str [49])) .nil))) (.cons (.cst (.str [49, 97, 49])) (.cons (.cst (.bl true)) .nil))))))))))) .nil))))
  .skip)
def b__law_flips : T := (.seq (.ret (.mth .join (.cst (.str [])) (.cmp0 (.ife (.cmp .inn (.var 2) (.var 1)) (.bi .str (.bin .sub (.cst (.int 1)) (.bi .int (.idx (.var 0) (.var 2))))) (.idx (.var 0) (.var 2))) (.nm 2) (.rng1 (.bi .len (.var 0))))))
  .skip)
def b__law_damaged : T := (.seq (.par [2, 3] (.cons (.call 15 (.cons (.var 0) (.cons (.cst (.int 5)) .nil))) (.cons (.call 15 (.cons (.var 0) (.cons (.bin .add (.bi .len (.var 1)) (.cst (.int 1))) .nil))) .nil)))
  (.seq (.asg 4 (.call 20 (.cons (.call 15 (.cons (.var 0) (.cons (.cst (.int 16)) .nil))) (.cons (.cst (.int 4)) .nil))))
  (.seq (.ife (.or (.cmp .eq (.var 2) (.cst (.int 0))) (.one (.cmp .eq (.var 1) (.cst (.str []))))) (.seq (.ret (.var 1))
  .skip) .skip)
  (.seq (.ife (.cmp .eq (.var 2) (.cst (.int 1))) (.seq (.ret (.slc (.var 1) .nil (.prt (.var 3))))
  .skip) .skip)
  (.seq (.ife (.cmp .eq (.var 2) (.cst (.int 2))) (.seq (.ret (.bin .add (.bin .add (.slc (.var 1) .nil (.prt (.var 3))) (.slc (.var 4) .nil (.prt (.bin .add (.cst (.int 1)) (.bin .mod (.var 3) (.cst (.int 3))))))) (.slc (.var 1) (.prt (.var 3)) .nil)))
  .skip) .skip)
  (.seq (.ife (.cmp .eq (.var 2) (.cst (.int 3))) (.seq (.ret (.bin .add (.slc (.var 1) .nil (.prt (.var 3))) (.slc (.var 1) (.prt (.bin .add (.var 3) (.cst (.int 1)))) .nil)))
  .skip) .skip)
  (.seq (.ret (.call 26 (.cons (.var 1) (.cons (.lst (.cons (.bin .mod (.var 3) (.bi .len (.var 1))) (.cons (.bin .mod (.bin .add (.var 3) (.call 15 (.cons (.var 0) (.cons (.cst (.int 4)) .nil)))) (.bi .len (.var 1))) .nil))) .nil))))
  .skip)))))))
def b_law : T := (.seq (.sto 1 (.cons (.var 0) (.cons (.cst (.int 0)) (.cons (.cst (.int 8616)) (.cons (.cst (.int 0)) .nil)))))
  (.seq (.for (.nm 2) (.rng1 (.cst (.int 4))) (.seq (.asg 3 (.call 24 (.cons (.var 1) .nil)))
  (.seq (.asg 4 (.slc (.call 20 (.cons (.call 15 (.cons (.var 1) (.cons (.bin .pow (.cst (.int 10)) (.cst (.int 6))) .nil))) (.cons (.cst (.int 20)) .nil))) .nil (.prt (.call 15 (.cons (.var 1) (.cons (.cst (.int 21)) .nil))))))
  (.seq (.asg 5 (.bin .add (.var 4) (.call 23 (.cons (.var 3) (.cons (.var 4) .nil)))))
  (.seq (.ife (.or (.cmp .isn (.call 3 (.cons (.var 3) .nil)) (.cst (.bl true))) (.one (.not (.call 17 (.cons (.tup (.cons (.call 8 (.cons (.var 3) (.cons (.var 4) .nil))) (.cons (.call 9 (.cons (.var 3) (.cons (.var 4) .nil))) .nil))) (.cons (.tup (.cons (.call 23 (.cons (.var 3) (.cons (.var 4) .nil))) (.cons (.var 5) .nil))) .nil)))))) (.seq (.ret (.cst (.bl false)))
  .skip) .skip)
  (.seq (.asg 6 (.call 27 (.cons (.var 1) (.cons (.var 5) .nil))))
  (.seq (.asg 7 (.and (.cmp .ge (.bi .len (.var 6)) (.bin .sub (.bi .len (.var 3)) (.cst (.int 1)))) (.one (.cmp .nin (.cst (.str [49])) (.call 22 (.cons (.var 3) (.cons (.var 6) .nil)))))))
  (.seq (.ife (.or (.cmp .isn (.call 10 (.cons (.var 3) (.cons (.var 5) .nil))) (.cst (.bl true))) (.one (.cmp .isn (.call 10 (.cons (.var 3) (.cons (.var 6) .nil))) (.var 7)))) (.seq (.ret (.cst (.bl false)))
  .skip) .skip)
  (.seq (.asg 8 (.bi .tuple (.srt (.cmp0 (.call 15 (.cons (.var 1) (.cons (.bi .len (.var 5)) .nil))) (.nm 15) (.rng1 (.call 15 (.cons (.var 1) (.cons (.cst (.int 5)) .nil))))))))
  (.seq (.ife (.not (.call 17 (.cons (.call 11 (.cons (.var 5) (.cons (.var 8) .nil))) (.cons (.call 26 (.cons (.var 5) (.cons (.var 8) .nil))) .nil)))) (.seq (.ret (.cst (.bl false)))
  .skip) .skip)
  (.seq (.asg 9 (.cmp .nin (.cst (.str [49])) (.call 22 (.cons (.var 3) (.cons (.call 26 (.cons (.bin .mul (.cst (.str [48])) (.bi .len (.var 5))) (.cons (.var 8) .nil))) .nil)))))
  (.seq (.ife (.or (.cmp .isn (.call 13 (.cons (.var 3) (.cons (.bi .len (.var 5)) (.cons (.var 8) .nil)))) (.var 9)) (.one (.cmp .isn (.call 10 (.cons (.var 3) (.cons (.call 11 (.cons (.var 5) (.cons (.var 8) .nil))) .nil))) (.var 9)))) (.seq (.ret (.cst (.bl false)))
  .skip) .skip)
  (.seq (.asg 10 (.call 16 (.cons (.var 1) (.cons (.lst (.cons (.tup (.cons (.bi .len (.var 5)) .nil)) (.cons (.tup (.cons (.cst (.int 1)) (.cons (.cst (.int 0)) .nil))) (.cons (.tup (.cons (.cst (.int 0)) (.cons (.cst (.int 0)) .nil))) (.cons (.lst (.cons (.cst (.int 0)) .nil)) (.cons (.cst .non) (.cons (.tup (.cons (.neg (.cst (.int 1))) .nil)) (.cons (.tup (.cons (.cst (.bl true)) .nil)) (.cons (.tup (.cons (.cst (.str [48])) .nil)) (.cons (.cst (.int 0)) .nil)))))))))) .nil))))
  (.seq (.ife (.not (.call 18 (.cons (.lst (.cons (.told (.call 11 (.cons (.var 5) (.cons (.var 10) .nil)))) (.cons (.told (.call 13 (.cons (.var 3) (.cons (.bi .len (.var 5)) (.cons (.var 10) .nil))))) .nil))) (.cons (.bin .mul (.lst (.cons (.tup (.cons (.cst (.str [66, 97, 100, 78, 117, 109, 98, 101, 114])) (.cons (.var 10) .nil))) .nil)) (.cst (.int 2))) .nil)))) (.seq (.ret (.cst (.bl false)))
  .skip) .skip)
  (.seq (.asgT (.tp (.cons (.nm 13) (.cons (.nm 14) .nil))) (.tup (.cons (.call 25 (.cons (.var 1) .nil)) (.cons (.call 21 (.cons (.var 1) .nil)) .nil))))
  (.seq (.lams 11 0)
  (.seq (.ife (.or (.cmp .isn (.call 3 (.cons (.var 13) .nil)) (.cst (.bl false))) (.one (.not (.call 18 (.cons (.tolds 11 0) (.cons (.bin .mul (.lst (.cons (.tup (.cons (.cst (.str [66, 97, 100, 78, 117, 109, 98, 101, 114])) (.cons (.var 13) .nil))) .nil)) (.cst (.int 4))) .nil)))))) (.seq (.ret (.cst (.bl false)))
  .skip) .skip)
  (.seq (.asg 12 (.call 16 (.cons (.var 1) (.cons (.lst (.cons (.bin .sub (.bi .len (.var 3)) (.cst (.int 2))) (.cons (.cst (.int 509)) (.cons (.cst (.bl true)) (.cons (.cst .non) (.cons (.cst (.str [57])) .nil)))))) .nil))))
  (.seq (.lams 11 1)
  (.seq (.ife (.or (.cmp .isn (.call 10 (.cons (.var 3) (.cons (.var 14) .nil))) (.cst (.bl false))) (.one (.not (.call 18 (.cons (.tolds 11 1) (.cons (.lst (.cons (.tup (.cons (.cst (.str [66, 97, 100, 78, 117, 109, 98, 101, 114])) (.cons (.var 14) .nil))) (.cons (.tup (.cons (.cst (.str [66, 97, 100, 78, 117, 109, 98, 101, 114])) (.cons (.bin .mul (.cst (.str [48])) (.cst (.int 501))) .nil))) (.cons (.tup (.cons (.cst (.str [66, 97, 100, 78, 117, 109, 98, 101, 114])) (.cons (.var 12) .nil))) .nil)))) .nil)))))) (.seq (.ret (.cst (.bl false)))
  .skip) .skip)
  .skip))))))))))))))))))))
  (.seq (.ret (.and (.cmp .eq (.call 8 (.cons (.cst (.str [49, 48, 49])) (.cons (.bin .mul (.cst (.str [49])) (.cst (.int 500))) .nil))) (.call 23 (.cons (.cst (.str [49, 48, 49])) (.cons (.bin .mul (.cst (.str [49])) (.cst (.int 500))) .nil)))) (.and (.cmp .iss (.call 10 (.cons (.cst (.str [49, 49])) (.cons (.bin .mul (.cst (.str [48])) (.cst (.int 509))) .nil))) (.cst (.bl false))) (.one (.cmp .iss (.call 10 (.cons (.cst (.str [49, 49])) (.cons (.bin .mul (.cst (.str [48])) (.cst (.int 508))) .nil))) (.cst (.bl true)))))))
  .skip)))
def fns : List Fn := [
  .code 1 1 [] b_is_whole,
  .code 3 3 [] b_is_within,
  .code 1 2 [] b_are_bits,
  .code 1 1 [] b_is_guard,
  .code 1 1 [] b_need_guard,
  .code 1 1 [] b_need_bits,
  .code 2 6 [] b_rest_of,
  .code 1 3 [] b_int_of,
  .code 2 5 [] b_check_bits,
  .code 2 2 [] b_guarded,
  .code 2 2 [] b_is_guarded,
  .code 2 4 [] b_flipped,
  .code 2 5 [] b_are_places,
  .code 3 4 [] b_are_unseen,
  .code 2 2 [] b_need_many,
  .code 2 4 [] b__law_taken,
  .code 2 2 [] b__law_pick,
  .code 2 3 [] b__law_alike,
  .same,
  .code 2 4 [] b__law_power,
  .code 2 3 [] b__law_binary,
  .code 1 1 [] b__law_odd_bits,
  .code 2 6 [] b__law_rest,
  .code 2 2 [] b__law_check,
  .code 1 1 [] b__law_guard,
  .code 1 1 [] b__law_odd_guard,
  .code 2 3 [] b__law_flips,
  .code 2 5 [] b__law_damaged,
  .code 1 17 [(.cons (.call 8 (.cons (.var 13) (.cons (.var 14) .nil))) (.cons (.call 9 (.cons (.var 13) (.cons (.var 4) .nil))) (.cons (.call 10 (.cons (.var 13) (.cons (.var 4) .nil))) (.cons (.call 13 (.cons (.var 13) (.cons (.cst (.int 9)) (.cons (.tup .nil) .nil)))) .nil)))), (.cons (.call 8 (.cons (.var 3) (.cons (.var 14) .nil))) (.cons (.call 9 (.cons (.var 3) (.cons (.bin .mul (.cst (.str [48])) (.cst (.int 501))) .nil))) (.cons (.call 13 (.cons (.var 3) (.cons (.var 12) (.cons (.tup .nil) .nil)))) .nil)))] b_law]
end RB.K16

set_option linter.all false
set_option maxRecDepth 100000
set_option maxHeartbeats 4000000
set_option autoImplicit false
/-! Division without carrying: plain. -/
namespace RB

def isBit (c : Nat) : Bool := decide (c = 48) || decide (c = 49)
/-- the number that bits tell -/
def valB (s : List Nat) : Nat := s.foldl (fun r c => 2 * r + (c - 48)) 0
/-- a number as so many bits -/
def binS (n d : Nat) : List Nat := (List.range d).map fun i => 48 + n / 2 ^ (d - 1 - i) % 2
/-- a step of the division -/
def stepN (dv deg r c : Nat) : Nat := if (2 * r + (c - 48)) / 2 ^ deg = 1 then (2 * r + (c - 48)) ^^^ dv else 2 * r + (c - 48)
def restN (g b : List Nat) : Nat := b.foldl (stepN (valB g) (g.length - 1)) 0
/-- the same on texts -/
def xorS (a b : List Nat) : List Nat := List.zipWith (fun x y => 48 + (x - 48 + (y - 48)) % 2) a b
def lstep (g now : List Nat) (c : Nat) : List Nat :=
  let n1 := now ++ [c]
  let n2 := if n1.length > g.length - 1 ∧ n1[0]? = some 49 then xorS n1 g else n1
  if n2.length > g.length - 1 then n2.drop 1 else n2
def nowS (g b : List Nat) : List Nat := b.foldl (lstep g) []
def lawRest (g b : List Nat) : List Nat := List.replicate (g.length - 1 - (nowS g b).length) 48 ++ nowS g b

theorem isBit_iff {c : Nat} : isBit c = true ↔ c = 48 ∨ c = 49 := by simp [isBit]
theorem bit_le {c : Nat} (h : isBit c = true) : c - 48 ≤ 1 := by
  rcases isBit_iff.mp h with rfl | rfl <;> decide
def Bits (s : List Nat) : Prop := ∀ c ∈ s, isBit c = true
theorem Bits.cons {c : Nat} {s : List Nat} : Bits (c :: s) ↔ isBit c = true ∧ Bits s := by simp [Bits]
theorem Bits.append {s t : List Nat} : Bits (s ++ t) ↔ Bits s ∧ Bits t := by
  unfold Bits
  simp only [List.mem_append]
  exact ⟨fun h => ⟨fun c hc => h c (.inl hc), fun c hc => h c (.inr hc)⟩, fun h c hc => hc.elim (h.1 c) (h.2 c)⟩
theorem Bits.rep (n : Nat) : Bits (List.replicate n 48) := fun c hc => by
  rw [(List.mem_replicate.mp hc).2]
  rfl

theorem lt_two {q : Nat} (h : q < 2) : q = 0 ∨ q = 1 := by omega
/-! ### xor -/
theorem two_add {r x : Nat} (hx : x ≤ 1) : 2 * r + x = (2 * r) ^^^ x := by
  apply Nat.eq_of_testBit_eq
  intro i
  rw [Nat.testBit_xor]
  cases i with
  | zero =>
    have h1 : (2 * r).testBit 0 = false := by simp
    rw [h1, Nat.testBit_zero, Nat.testBit_zero]
    rcases (by omega : x = 0 ∨ x = 1) with rfl | rfl
    · simp
    · simp
  | succ i =>
    rw [Nat.testBit_succ, Nat.testBit_succ, Nat.testBit_succ]
    have h1 : (2 * r + x) / 2 = r := by omega
    have h2 : 2 * r / 2 = r := by omega
    have h3 : x / 2 = 0 := by omega
    rw [h1, h2, h3]
    simp
theorem two_xor (a b : Nat) : 2 * (a ^^^ b) = (2 * a) ^^^ (2 * b) := by
  apply Nat.eq_of_testBit_eq
  intro i
  rw [Nat.testBit_xor]
  cases i with
  | zero => simp
  | succ i =>
    rw [Nat.testBit_succ, Nat.testBit_succ, Nat.testBit_succ]
    have h1 : 2 * (a ^^^ b) / 2 = a ^^^ b := by omega
    have h2 : 2 * a / 2 = a := by omega
    have h3 : 2 * b / 2 = b := by omega
    rw [h1, h2, h3, Nat.testBit_xor]

/-- one step with a 0 -/
def L (dv deg a : Nat) : Nat := (2 * a) ^^^ (if a.testBit (deg - 1) then dv else 0)
section
variable {dv deg : Nat}
theorem top_bit {a : Nat} (hd : 1 ≤ deg) (ha : a < 2 ^ deg) : 2 * a / 2 ^ deg = (if a.testBit (deg - 1) then 1 else 0) := by
  obtain ⟨d, rfl⟩ : ∃ d, deg = d + 1 := ⟨deg - 1, by omega⟩
  rw [Nat.add_sub_cancel, Nat.pow_succ, Nat.mul_comm (2 ^ d) 2, Nat.mul_div_mul_left _ _ (by omega), Nat.testBit_eq_decide_div_mod_eq]
  have h2 : a / 2 ^ d < 2 := by
    rw [Nat.div_lt_iff_lt_mul (Nat.pow_pos (by omega))]
    rw [Nat.pow_succ] at ha
    omega
  rcases lt_two h2 with h | h <;> simp [h]
theorem step_L {a c : Nat} (hd : 1 ≤ deg) (ha : a < 2 ^ deg) (hc : isBit c = true) : stepN dv deg a c = L dv deg a ^^^ (c - 48) := by
  have hx := bit_le hc
  have e : (2 * a + (c - 48)) / 2 ^ deg = 2 * a / 2 ^ deg := by
    obtain ⟨d, rfl⟩ : ∃ d, deg = d + 1 := ⟨deg - 1, by omega⟩
    rw [Nat.pow_succ, Nat.mul_comm (2 ^ d) 2, ← Nat.div_div_eq_div_mul, ← Nat.div_div_eq_div_mul]
    congr 1
    omega
  unfold stepN L
  rw [e, top_bit hd ha, two_add hx]
  cases a.testBit (deg - 1)
  · simp
  · simp only [if_true]
    rw [Nat.xor_assoc, Nat.xor_assoc, Nat.xor_comm dv]
theorem L_xor (a b : Nat) : L dv deg (a ^^^ b) = L dv deg a ^^^ L dv deg b := by
  unfold L
  rw [two_xor, Nat.testBit_xor]
  cases a.testBit (deg - 1) <;> cases b.testBit (deg - 1) <;> simp
  · rw [Nat.xor_assoc]
  · rw [Nat.xor_assoc, Nat.xor_assoc, Nat.xor_comm dv]
  · rw [Nat.xor_assoc, Nat.xor_comm dv, Nat.xor_assoc, Nat.xor_self, Nat.xor_zero]
theorem L_zero : L dv deg 0 = 0 := by simp [L]
theorem L_lt {a : Nat} (hd : 1 ≤ deg) (ha : a < 2 ^ deg) (h1 : 2 ^ deg ≤ dv) (h2 : dv < 2 ^ (deg + 1)) : L dv deg a < 2 ^ deg := by
  obtain ⟨d, rfl⟩ : ∃ d, deg = d + 1 := ⟨deg - 1, by omega⟩
  have hp : (2 : Nat) ^ (d + 1) = 2 * 2 ^ d := by rw [Nat.pow_succ, Nat.mul_comm]
  have dvt : dv.testBit (d + 1) = true := by
    rw [Nat.testBit_eq_decide_div_mod_eq]
    have : dv / 2 ^ (d + 1) = 1 := by
      rw [Nat.pow_succ] at h2
      apply Nat.div_eq_of_lt_le <;> omega
    simp [this]
  have tb := top_bit (a := a) (deg := d + 1) (by omega) ha
  rw [Nat.add_sub_cancel] at tb
  have big : ∀ x, x < 2 ^ (d + 2) → x.testBit (d + 1) = false → x < 2 ^ (d + 1) := fun x hx ht => by
    rw [Nat.testBit_eq_decide_div_mod_eq] at ht
    have : x / 2 ^ (d + 1) < 2 := by
      rw [Nat.div_lt_iff_lt_mul (Nat.pow_pos (by omega))]
      rw [Nat.pow_succ] at hx
      omega
    have h0 : x / 2 ^ (d + 1) = 0 := by
      rcases lt_two this with h | h
      · exact h
      · rw [h] at ht
        simp at ht
    rcases Nat.div_eq_zero_iff.mp h0 with h | h
    · exact absurd h (Nat.ne_of_gt (Nat.pow_pos (by omega)))
    · exact h
  have s2 : 2 * a < 2 ^ (d + 2) := by
    rw [Nat.pow_succ]
    omega
  have t2 : (2 * a).testBit (d + 1) = a.testBit d := by
    rw [Nat.testBit_succ, show 2 * a / 2 = a by omega]
  refine big _ ?_ ?_
  · unfold L
    split
    · exact Nat.xor_lt_two_pow s2 h2
    · exact Nat.xor_lt_two_pow s2 (Nat.pow_pos (by omega))
  · unfold L
    rw [Nat.add_sub_cancel, Nat.testBit_xor, t2]
    cases e : a.testBit d
    · simp
    · simp [dvt]

/-- what is left behind bits, from r on -/
def foldL (dv deg : Nat) (r : Nat) (b : List Nat) : Nat := b.foldl (fun r c => L dv deg r ^^^ (c - 48)) r
theorem bit_lt {c : Nat} (hd : 1 ≤ deg) (hc : isBit c = true) : c - 48 < 2 ^ deg := by
  have := bit_le hc
  have h2 : 2 ^ 1 ≤ 2 ^ deg := Nat.pow_le_pow_right (by omega) hd
  omega
theorem foldL_lt (hd : 1 ≤ deg) (h1 : 2 ^ deg ≤ dv) (h2 : dv < 2 ^ (deg + 1)) : ∀ {b : List Nat} {r : Nat}, r < 2 ^ deg → Bits b → foldL dv deg r b < 2 ^ deg
  | [], _, hr, _ => hr
  | c :: b, r, hr, hb => by
    obtain ⟨hc, hb⟩ := Bits.cons.mp hb
    exact foldL_lt (b := b) hd h1 h2 (Nat.xor_lt_two_pow (L_lt hd hr h1 h2) (bit_lt hd hc)) hb
theorem fold_step (hd : 1 ≤ deg) (h1 : 2 ^ deg ≤ dv) (h2 : dv < 2 ^ (deg + 1)) : ∀ {b : List Nat} {r : Nat}, r < 2 ^ deg → Bits b → b.foldl (stepN dv deg) r = foldL dv deg r b
  | [], _, _, _ => rfl
  | c :: b, r, hr, hb => by
    obtain ⟨hc, hb⟩ := Bits.cons.mp hb
    show b.foldl (stepN dv deg) (stepN dv deg r c) = foldL dv deg (L dv deg r ^^^ (c - 48)) b
    rw [step_L hd hr hc]
    exact fold_step hd h1 h2 (Nat.xor_lt_two_pow (L_lt hd hr h1 h2) (bit_lt hd hc)) hb
theorem foldL_app (r : Nat) (a b : List Nat) : foldL dv deg r (a ++ b) = foldL dv deg (foldL dv deg r a) b := by
  unfold foldL
  rw [List.foldl_append]
theorem bit_xor {x y : Nat} (hx : isBit x = true) (hy : isBit y = true) : 48 + (x - 48 + (y - 48)) % 2 - 48 = (x - 48) ^^^ (y - 48) := by
  rcases isBit_iff.mp hx with rfl | rfl <;> rcases isBit_iff.mp hy with rfl | rfl <;> rfl
theorem foldL_xor : ∀ {a b : List Nat} {r t : Nat}, a.length = b.length → Bits a → Bits b → foldL dv deg (r ^^^ t) (xorS a b) = foldL dv deg r a ^^^ foldL dv deg t b
  | [], [], _, _, _, _, _ => rfl
  | x :: a, y :: b, r, t, hl, ha, hb => by
    obtain ⟨hx, ha⟩ := Bits.cons.mp ha
    obtain ⟨hy, hb⟩ := Bits.cons.mp hb
    show foldL dv deg (L dv deg (r ^^^ t) ^^^ (48 + (x - 48 + (y - 48)) % 2 - 48)) (xorS a b) = _
    rw [bit_xor hx hy, L_xor]
    have e : L dv deg r ^^^ L dv deg t ^^^ ((x - 48) ^^^ (y - 48)) = (L dv deg r ^^^ (x - 48)) ^^^ (L dv deg t ^^^ (y - 48)) := by
      rw [Nat.xor_assoc, Nat.xor_assoc]
      congr 1
      rw [← Nat.xor_assoc, Nat.xor_comm (L dv deg t), Nat.xor_assoc]
    rw [e]
    exact foldL_xor (by simpa using hl) ha hb
end

/-! ### texts of bits -/
theorem valB_app (s : List Nat) (c : Nat) : valB (s ++ [c]) = 2 * valB s + (c - 48) := by
  unfold valB
  rw [List.foldl_append]
  rfl
theorem fold_val (s : List Nat) : ∀ r, s.foldl (fun r c => 2 * r + (c - 48)) r = r * 2 ^ s.length + valB s := by
  induction s with
  | nil => simp [valB]
  | cons c s ih =>
    intro r
    unfold valB
    rw [List.foldl_cons, List.foldl_cons, ih, ih]
    rw [List.length_cons, Nat.pow_succ, Nat.add_mul, Nat.add_mul]
    rw [show 2 * r * 2 ^ s.length = r * (2 ^ s.length * 2) by rw [Nat.mul_comm 2 r, Nat.mul_assoc, Nat.mul_comm 2]]
    omega
theorem valB_cons (c : Nat) (s : List Nat) : valB (c :: s) = (c - 48) * 2 ^ s.length + valB s := by
  show s.foldl (fun r c => 2 * r + (c - 48)) (2 * 0 + (c - 48)) = _
  rw [fold_val]
  simp
theorem valB_lt : ∀ {s : List Nat}, Bits s → valB s < 2 ^ s.length
  | [], _ => by decide
  | c :: s, h => by
    obtain ⟨hc, hs⟩ := Bits.cons.mp h
    have := valB_lt hs
    have := bit_le hc
    rw [valB_cons, List.length_cons, Nat.pow_succ]
    rcases (by omega : c - 48 = 0 ∨ c - 48 = 1) with h | h <;> rw [h] <;> omega
theorem binS_length (n d : Nat) : (binS n d).length = d := by simp [binS]
theorem binS_bits (n d : Nat) : Bits (binS n d) := fun c hc => by
  simp only [binS, List.mem_map] at hc
  obtain ⟨i, _, rfl⟩ := hc
  rcases lt_two (Nat.mod_lt (n / 2 ^ (d - 1 - i)) (by omega : 2 > 0)) with h | h <;> rw [h] <;> rfl
theorem binS_succ (n d : Nat) : binS n (d + 1) = binS (n / 2) d ++ [48 + n % 2] := by
  unfold binS
  rw [List.range_succ, List.map_append]
  congr 1
  · apply List.map_congr_left
    intro i hi
    have hi := List.mem_range.mp hi
    rw [show d + 1 - 1 - i = (d - 1 - i) + 1 by omega, Nat.pow_succ, Nat.mul_comm, Nat.div_div_eq_div_mul]
  · simp
theorem binS_val : ∀ (d : Nat) (s : List Nat), s.length = d → Bits s → binS (valB s) d = s
  | 0, s, hl, _ => by
    rw [List.eq_nil_of_length_eq_zero hl]
    rfl
  | d + 1, s, hl, hb => by
    have hne : s ≠ [] := fun h => by rw [h] at hl; cases hl
    have e := List.dropLast_concat_getLast hne
    generalize s.dropLast = t at e
    generalize s.getLast hne = c at e
    subst e
    obtain ⟨ht, hc⟩ := Bits.append.mp hb
    have hc : isBit c = true := hc c (by simp)
    have ih := binS_val d t (by simpa using hl) ht
    have := bit_le hc
    rw [binS_succ, valB_app, show (2 * valB t + (c - 48)) / 2 = valB t by omega, ih, show (2 * valB t + (c - 48)) % 2 = c - 48 by omega]
    rcases isBit_iff.mp hc with rfl | rfl <;> rfl
theorem val_binS : ∀ (d n : Nat), n < 2 ^ d → valB (binS n d) = n
  | 0, n, h => by
    have : n = 0 := by simpa using h
    subst this
    rfl
  | d + 1, n, h => by
    rw [binS_succ, valB_app, val_binS d (n / 2) (by rw [Nat.pow_succ] at h; omega)]
    omega
theorem val_zeros (n : Nat) (s : List Nat) : valB (List.replicate n 48 ++ s) = valB s := by
  induction n with
  | zero => rfl
  | succ n ih =>
    rw [List.replicate_succ, List.cons_append, valB_cons, ih]
    simp
theorem valB_foldL : ∀ (s : List Nat) (r : Nat), Bits s → s.foldl (fun r c => 2 * r + (c - 48)) r = foldL 0 0 r s
  | [], _, _ => rfl
  | c :: s, r, h => by
    obtain ⟨hc, hs⟩ := Bits.cons.mp h
    show s.foldl (fun r c => 2 * r + (c - 48)) (2 * r + (c - 48)) = foldL 0 0 (L 0 0 r ^^^ (c - 48)) s
    rw [two_add (bit_le hc), show L 0 0 r = 2 * r by simp [L]]
    exact valB_foldL s _ hs
theorem xorS_bits : ∀ {a b : List Nat}, Bits (xorS a b)
  | [], _ => fun c hc => by cases hc
  | _ :: _, [] => fun c hc => by cases hc
  | x :: a, y :: b => by
    show Bits (_ :: xorS a b)
    refine Bits.cons.mpr ⟨?_, xorS_bits⟩
    show isBit (48 + (x - 48 + (y - 48)) % 2) = true
    rcases lt_two (Nat.mod_lt (x - 48 + (y - 48)) (by omega : 2 > 0)) with h | h <;> rw [h] <;> rfl
theorem xorS_length {a b : List Nat} (h : a.length = b.length) : (xorS a b).length = a.length := by
  simp [xorS, h]
theorem val_xorS {a b : List Nat} (hl : a.length = b.length) (ha : Bits a) (hb : Bits b) : valB (xorS a b) = valB a ^^^ valB b := by
  have h := foldL_xor (dv := 0) (deg := 0) (r := 0) (t := 0) hl ha hb
  unfold valB
  rw [valB_foldL _ _ xorS_bits, valB_foldL _ _ ha, valB_foldL _ _ hb]
  simpa using h

/-! ### guards -/
structure GOk (g : List Nat) : Prop where
  bits : Bits g
  two : 2 ≤ g.length
  one : g[0]? = some 49
section
variable {g : List Nat}
theorem GOk.cons (h : GOk g) : ∃ t, g = 49 :: t ∧ Bits t ∧ 1 ≤ t.length := by
  obtain ⟨h1, h2, h3⟩ := h
  cases g with
  | nil => cases h3
  | cons c t =>
    have : c = 49 := by simpa using h3
    subst this
    exact ⟨t, rfl, (Bits.cons.mp h1).2, by simpa using h2⟩
theorem GOk.deg (h : GOk g) : 1 ≤ g.length - 1 := by
  have := h.two
  omega
theorem GOk.lo (h : GOk g) : 2 ^ (g.length - 1) ≤ valB g := by
  obtain ⟨t, rfl, _, _⟩ := h.cons
  rw [valB_cons]
  simp
theorem GOk.hi (h : GOk g) : valB g < 2 ^ (g.length - 1 + 1) := by
  have := h.two
  rw [show g.length - 1 + 1 = g.length by omega]
  exact valB_lt h.bits
theorem rest_foldL (h : GOk g) {b : List Nat} (hb : Bits b) : restN g b = foldL (valB g) (g.length - 1) 0 b := fold_step h.deg h.lo h.hi (Nat.pow_pos (by omega)) hb
theorem rest_lt (h : GOk g) {b : List Nat} (hb : Bits b) : restN g b < 2 ^ (g.length - 1) := by
  rw [rest_foldL h hb]
  exact foldL_lt h.deg h.lo h.hi (Nat.pow_pos (by omega)) hb
theorem rest_xor (h : GOk g) {a b : List Nat} (hl : a.length = b.length) (ha : Bits a) (hb : Bits b) : restN g (xorS a b) = restN g a ^^^ restN g b := by
  rw [rest_foldL h ha, rest_foldL h hb, rest_foldL h xorS_bits]
  simpa using foldL_xor (dv := valB g) (deg := g.length - 1) (r := 0) (t := 0) hl ha hb
theorem rest_zeros (h : GOk g) (n : Nat) : restN g (List.replicate n 48) = 0 := by
  rw [rest_foldL h (Bits.rep n)]
  induction n with
  | zero => rfl
  | succ n ih =>
    rw [List.replicate_succ]
    show foldL _ _ (L _ _ 0 ^^^ (48 - 48)) _ = 0
    rw [L_zero]
    exact ih
/-- few bits leave themselves -/
theorem foldL_few {dv deg : Nat} : ∀ (d : Nat) (c : List Nat), c.length = d → d ≤ deg → Bits c → foldL dv deg 0 c = valB c
  | 0, c, hl, _, _ => by
    rw [List.eq_nil_of_length_eq_zero hl]
    rfl
  | d + 1, c, hl, hd, hb => by
    have hne : c ≠ [] := fun h => by rw [h] at hl; cases hl
    have e := List.dropLast_concat_getLast hne
    generalize c.dropLast = t at e
    generalize c.getLast hne = x at e
    subst e
    obtain ⟨ht, hx⟩ := Bits.append.mp hb
    have hx : isBit x = true := hx x (by simp)
    have hl' : t.length = d := by simpa using hl
    have ih := foldL_few (dv := dv) (deg := deg) d t hl' (by omega) ht
    rw [foldL_app, ih, valB_app, two_add (bit_le hx)]
    show L dv deg (valB t) ^^^ (x - 48) = _
    have lt : valB t < 2 ^ (deg - 1) := Nat.lt_of_lt_of_le (valB_lt ht) (Nat.pow_le_pow_right (by omega) (by omega))
    have tb : (valB t).testBit (deg - 1) = false := Nat.testBit_lt_two_pow lt
    unfold L
    rw [tb]
    simp
/-- WHAT THE GUARD PUTS BEHIND BITS LEAVES NOTHING -/
theorem rest_whole (h : GOk g) {b : List Nat} (hb : Bits b) : restN g (b ++ binS (restN g (b ++ List.replicate (g.length - 1) 48)) (g.length - 1)) = 0 := by
  have hz : Bits (b ++ List.replicate (g.length - 1) 48) := Bits.append.mpr ⟨hb, Bits.rep _⟩
  have hr := rest_lt h hz
  have hc := binS_bits (restN g (b ++ List.replicate (g.length - 1) 48)) (g.length - 1)
  have hcl := binS_length (restN g (b ++ List.replicate (g.length - 1) 48)) (g.length - 1)
  have hv := val_binS _ _ hr
  rw [rest_foldL h (Bits.append.mpr ⟨hb, hc⟩), foldL_app]
  rw [rest_foldL h hz, foldL_app] at hv hc hcl ⊢
  generalize foldL (valB g) (g.length - 1) 0 b = r at hv hc hcl ⊢
  have e := foldL_xor (dv := valB g) (deg := g.length - 1) (r := r) (t := 0) (a := List.replicate (g.length - 1) 48) (b := binS (foldL (valB g) (g.length - 1) r (List.replicate (g.length - 1) 48)) (g.length - 1)) (by rw [hcl]; simp) (Bits.rep _) hc
  rw [foldL_few (g.length - 1) _ hcl (Nat.le_refl _) hc, hv, Nat.xor_self, Nat.xor_zero] at e
  rw [← e]
  congr 1
  have zx : ∀ (c : List Nat), Bits c → xorS (List.replicate c.length 48) c = c := by
    intro c
    induction c with
    | nil => intro _; rfl
    | cons x c ih =>
      intro hb
      obtain ⟨hx, hb⟩ := Bits.cons.mp hb
      rw [List.length_cons, List.replicate_succ]
      show (48 + (48 - 48 + (x - 48)) % 2) :: xorS _ c = _
      rw [ih hb]
      rcases isBit_iff.mp hx with rfl | rfl <;> rfl
  have := zx _ hc
  rw [hcl] at this
  exact this.symm

/-! ### the division on texts -/
theorem lstep_ok (h : GOk g) {now : List Nat} {c : Nat} (hn : Bits now) (hl : now.length ≤ g.length - 1) (hc : isBit c = true) :
    Bits (lstep g now c) ∧ (lstep g now c).length = min (now.length + 1) (g.length - 1) ∧ valB (lstep g now c) = stepN (valB g) (g.length - 1) (valB now) c := by
  have hb1 : Bits (now ++ [c]) := Bits.append.mpr ⟨hn, fun x hx => by rw [List.mem_singleton.mp hx]; exact hc⟩
  have hv1 := valB_app now c
  have hlen : (now ++ [c]).length = now.length + 1 := by simp
  have hlt := valB_lt hb1
  have d1 := h.deg
  have h2 := h.two
  unfold lstep
  dsimp only
  rw [hlen]
  by_cases hd : now.length + 1 ≤ g.length - 1
  · have e1 : (if now.length + 1 > g.length - 1 ∧ (now ++ [c])[0]? = some 49 then xorS (now ++ [c]) g else now ++ [c]) = now ++ [c] := if_neg fun z => by omega
    rw [e1, if_neg (by rw [hlen]; omega)]
    refine ⟨hb1, by rw [hlen]; omega, ?_⟩
    unfold stepN
    rw [← hv1]
    have : valB (now ++ [c]) < 2 ^ (g.length - 1) := Nat.lt_of_lt_of_le hlt (Nat.pow_le_pow_right (by omega) (by rw [hlen]; exact hd))
    rw [Nat.div_eq_of_lt this, if_neg (by omega)]
  · have el : now.length = g.length - 1 := by omega
    have eg : (now ++ [c]).length = g.length := by rw [hlen]; omega
    obtain ⟨x, t, hx⟩ : ∃ x t, now ++ [c] = x :: t := by
      cases now with
      | nil => exact ⟨c, [], rfl⟩
      | cons y r => exact ⟨y, r ++ [c], rfl⟩
    rw [hx] at hb1 hv1 hlen hlt eg ⊢
    have tl : t.length = g.length - 1 := by
      rw [List.length_cons] at eg
      omega
    obtain ⟨bx, bt⟩ := Bits.cons.mp hb1
    have vt := valB_lt bt
    rw [tl] at vt
    have vc := valB_cons x t
    rw [tl] at vc
    rcases isBit_iff.mp bx with rfl | rfl
    · have e1 : (if now.length + 1 > g.length - 1 ∧ (48 :: t)[0]? = some 49 then xorS (48 :: t) g else 48 :: t) = 48 :: t := if_neg fun z => by simp at z
      rw [e1, if_pos (by rw [List.length_cons]; omega)]
      refine ⟨bt, ?_, ?_⟩
      · show t.length = _
        omega
      · show valB t = _
        unfold stepN
        rw [← hv1, vc]
        simp only [Nat.sub_self, Nat.zero_mul, Nat.zero_add]
        rw [Nat.div_eq_of_lt vt, if_neg (by omega)]
    · have xl : (xorS (49 :: t) g).length = g.length := by rw [xorS_length eg, eg]
      have e1 : (if now.length + 1 > g.length - 1 ∧ (49 :: t)[0]? = some 49 then xorS (49 :: t) g else 49 :: t) = xorS (49 :: t) g := if_pos ⟨by omega, rfl⟩
      rw [e1, if_pos (by rw [xl]; omega)]
      obtain ⟨u, rfl, bu, ul⟩ := h.cons
      have e : xorS (49 :: t) (49 :: u) = 48 :: xorS t u := rfl
      have ut : t.length = u.length := by simpa using tl
      have xv := val_xorS eg hb1 h.bits
      rw [e, valB_cons] at xv
      rw [e]
      refine ⟨xorS_bits, ?_, ?_⟩
      · show (xorS t u).length = _
        rw [xorS_length ut]
        omega
      · show valB (xorS t u) = _
        unfold stepN
        rw [← hv1]
        have : valB (49 :: t) / 2 ^ ((49 :: u).length - 1) = 1 := by
          rw [vc]
          apply Nat.div_eq_of_lt_le <;> omega
        rw [if_pos this, ← xv]
        simp
theorem nowS_ok (h : GOk g) : ∀ {b now : List Nat}, Bits b → Bits now → now.length ≤ g.length - 1 →
    Bits (b.foldl (lstep g) now) ∧ (b.foldl (lstep g) now).length ≤ g.length - 1 ∧ valB (b.foldl (lstep g) now) = b.foldl (stepN (valB g) (g.length - 1)) (valB now)
  | [], now, _, hn, hl => ⟨hn, hl, rfl⟩
  | c :: b, now, hb, hn, hl => by
    obtain ⟨hc, hb⟩ := Bits.cons.mp hb
    obtain ⟨a1, a2, a3⟩ := lstep_ok h hn hl hc
    rw [List.foldl_cons, List.foldl_cons, ← a3]
    exact nowS_ok h hb a1 (by omega)
theorem lawRest_eq (h : GOk g) {b : List Nat} (hb : Bits b) : lawRest g b = binS (restN g b) (g.length - 1) := by
  obtain ⟨a1, a2, a3⟩ := nowS_ok h (now := []) hb (fun c hc => by cases hc) (by simp)
  have e : valB (lawRest g b) = restN g b := by
    unfold lawRest
    rw [val_zeros]
    exact a3
  rw [← e]
  refine (binS_val _ _ ?_ ?_).symm
  · unfold lawRest nowS
    rw [List.length_append, List.length_replicate]
    omega
  · unfold lawRest
    exact Bits.append.mpr ⟨Bits.rep _, a1⟩
theorem rest_none (h : GOk g) {b : List Nat} (hb : Bits b) : (lawRest g b).contains 49 = decide (restN g b ≠ 0) := by
  rw [lawRest_eq h hb]
  by_cases e : restN g b = 0
  · rw [e]
    simp [binS]
  · have hv := val_binS _ _ (rest_lt h hb)
    have hm : 49 ∈ binS (restN g b) (g.length - 1) := by
      apply Classical.byContradiction
      intro hm
      apply e
      rw [← hv]
      have all : ∀ c ∈ binS (restN g b) (g.length - 1), c = 48 := fun c hc => by
        rcases isBit_iff.mp (binS_bits _ _ c hc) with z | z
        · exact z
        · rw [z] at hc
          exact absurd hc hm
      have : binS (restN g b) (g.length - 1) = List.replicate (g.length - 1) 48 ++ [] := by
        rw [List.append_nil]
        exact List.eq_replicate_iff.mpr ⟨binS_length _ _, all⟩
      rw [this, val_zeros]
      rfl
    simp [e, hm]
end
end RB

set_option linter.all false
set_option maxRecDepth 100000
set_option maxHeartbeats 4000000
set_option autoImplicit false
namespace RB.K16
open RB

def refB : Nat → List D → Option D
  | 1, [v] => some (.tup [.str [66, 97, 100, 78, 117, 109, 98, 101, 114], v])
  | 3, [v] => some (.tup [.str [66, 97, 100, 66, 105, 116, 115], v])
  | _, _ => none
def B : Base := ⟨fun i => match i with | 0 => some (.int 8) | 1 => some (.int 500) | _ => none, fun _ _ => none, fun _ => none, refB⟩
def P : Prog := ⟨B, fns⟩

def isWhole : D → Bool
  | .int _ => true
  | _ => false
def within (d : D) (a b : Int) : Bool := match d with
  | .int i => decide (a ≤ i) && decide (i ≤ b)
  | _ => false
def areBits : D → Bool
  | .str s => s.all isBit
  | _ => false
/-- a text's length is looked at -/
def okLen : D → Bool
  | .str s => decide (s.length ≤ LIM)
  | _ => true

section
variable {k : Nat} {d : D} {S : Store}
theorem is_whole_ok (t : typed d = true) : run P (k + 1) 0 [d] S = .ok (.bl (isWhole d)) S :=
  run_rt (np := 1) (n := 1) (lams := []) (body := b_is_whole) rfl rfl (ex_seq_rt (x_ret (v_and (v_isi (v_var rfl) t) (fun _ => v_one (v_not (v_isi (v_var rfl) t))) (by cases d <;> rfl))))
theorem is_within_ok {a b : Int} (t : typed d = true) : run P (k + 2) 1 [d, .int a, .int b] S = .ok (.bl (within d a b)) S := by
  have e : isWhole d = true → ∃ i, d = .int i := fun h => by
    cases d <;> first | (cases h; done) | exact ⟨_, rfl⟩
  by_cases h : isWhole d = true
  · obtain ⟨i, rfl⟩ := e h
    exact run_rt (np := 3) (n := 3) (lams := []) (body := b_is_within) rfl rfl (ex_seq_rt (x_ret (v_and (c_call (vs_cons (v_var rfl) vs_nil) (is_whole_ok t)) fun _ => v_one (v_chn (v_var rfl) (v_var rfl) rfl (fun _ => v_var rfl) fun _ => rfl))))
  · have h' : isWhole d = false := by simpa using h
    have w : within d a b = false := by cases d <;> first | rfl | (cases h'; done)
    rw [w]
    exact run_rt (np := 3) (n := 3) (lams := []) (body := b_is_within) rfl rfl (ex_seq_rt (x_ret (v_and_f (c_call (vs_cons (v_var rfl) vs_nil) ((is_whole_ok t).trans (by rw [h']))))))
theorem are_bits_ok (t : typed d = true) (hl : okLen d = true) : run P (k + 1) 2 [d] S = .ok (.bl (areBits d)) S := by
  cases d <;> first | rfl | (cases t; done) | skip
  rename_i s
  have hl : s.length ≤ LIM := by simpa [okLen] using hl
  refine run_rt (np := 1) (n := 2) (lams := []) (body := b_are_bits) rfl rfl (ex_seq_rt (x_ret (v_and_t (v_isi (v_var rfl) rfl) (v_one (v_bi (v_cmp0 (vi_S (v_var rfl)) (comp_pure (fun d => .bl (match d with | .str [c] => isBit c | _ => false)) fun d hd => ?_) (by simpa [signsOf] using hl)) ?_)))))
  · simp only [signsOf, List.mem_map] at hd
    obtain ⟨c, _, rfl⟩ := hd
    refine ⟨_, rfl, v_cmp (v_var rfl) v_cst ?_⟩
    show some _ = some _
    simp [isBit]
  · rw [signsOf, List.map_map]
    exact all_bl isBit s

def guardS (s : List Nat) : Bool := s.all isBit && (decide (2 ≤ s.length) && decide (s.length ≤ 9)) && (decide (s[0]? = some 49) && decide (s[s.length - 1]? = some 49))
def isGuard : D → Bool
  | .str s => guardS s
  | _ => false
theorem at_first {s : List Nat} (h : 1 ≤ s.length) : ∃ c, s[0]? = some c ∧ at? s 0 = some c := by
  cases s with
  | nil => simp at h
  | cons c r => exact ⟨c, rfl, by simp [at?, ixOf]⟩
theorem at_last {s : List Nat} (h : 1 ≤ s.length) : ∃ c, s[s.length - 1]? = some c ∧ at? s (-1) = some c := by
  have i1 : s[s.length - 1]? = some s[s.length - 1] := List.getElem?_eq_getElem (by omega)
  refine ⟨_, i1, ?_⟩
  have e : (-1 + (s.length : Int)).toNat = s.length - 1 := by omega
  have e2 : ixOf s.length (-1) = some (s.length - 1) := by
    unfold ixOf
    rw [if_neg (by omega), if_pos (by omega), e]
  unfold at?
  rw [e2]
  exact i1
theorem idx_str {s : List Nat} {i : Int} {c : Nat} (hl : s.length ≤ LIM) (h : at? s i = some c) : idxS S (.str s) (.int i) = some (.str [c]) := by
  show (if s.length ≤ LIM then (at? s i).map fun c => D.str [c] else none) = _
  rw [if_pos hl, h]
  rfl
theorem len_str {s : List Nat} (hl : s.length ≤ LIM) : bi .len (.str s) = some (.int s.length) := if_pos hl
theorem areBits_str (h : areBits d = true) : ∃ s, d = .str s ∧ s.all isBit = true := by
  cases d <;> first | (cases h; done) | exact ⟨_, rfl, h⟩
theorem isGuard_no (h : areBits d = false) : isGuard d = false := by
  cases d <;> first | rfl | skip
  have h : (_ : List Nat).all isBit = false := h
  simp only [isGuard, guardS, h, Bool.false_and]
theorem is_guard_ok (t : typed d = true) (hl : okLen d = true) : run P (k + 2) 3 [d] S = .ok (.bl (isGuard d)) S := by
  refine run_rt (np := 1) (n := 1) (lams := []) (body := b_is_guard) rfl rfl ?_
  by_cases hb : areBits d = true
  · obtain ⟨s, rfl, hb'⟩ := areBits_str hb
    have hs : s.length ≤ LIM := by simpa [okLen] using hl
    refine x_ifret (p := !(decide (2 ≤ s.length) && decide (s.length ≤ 9))) (v_or (v_not (c_call (vs_cons (v_var rfl) vs_nil) ((are_bits_ok t hl).trans (by rw [hb])))) (fun _ => v_one (v_not (v_chn (v_cst) (v_bi (v_var rfl) (len_str hs)) rfl (fun _ => v_bin (v_glb rfl) v_cst rfl) fun _ => rfl))) ?_) (fun h => v_cst.trans ?_) fun h => ?_
    · have e1 : decide ((2 : Int) ≤ s.length) = decide (2 ≤ s.length) := by
        by_cases z : 2 ≤ s.length <;> simp [z] <;> omega
      have e2 : decide ((s.length : Int) ≤ 8 + 1) = decide (s.length ≤ 9) := by
        by_cases z : s.length ≤ 9 <;> simp [z] <;> omega
      rw [e1, e2]
      rfl
    · have h : (decide (2 ≤ s.length) && decide (s.length ≤ 9)) = false := Bool.not_eq_true' _ |>.mp h
      show _ = R.ok (D.bl (guardS s)) S
      unfold guardS
      rw [hb', h]
      rfl
    · have h : (decide (2 ≤ s.length) && decide (s.length ≤ 9)) = true := Bool.not_eq_false' _ |>.mp h
      have h2 : 1 ≤ s.length := by simp at h; omega
      obtain ⟨c0, a0, b0⟩ := at_first h2
      obtain ⟨c1, a1, b1⟩ := at_last h2
      refine ex_seq_rt (x_ret (v_and (p := decide (c0 = 49)) (r := decide (c1 = 49)) (v_cmp (v_idx (v_var rfl) v_cst (idx_str hs b0)) v_cst ?_) (fun _ => v_one (v_cmp (v_idx (v_var rfl) (v_neg v_cst) (idx_str hs b1)) v_cst ?_)) ?_))
      · show some (_ && true) = _
        rw [Bool.and_true]
        rfl
      · show some (_ && true) = _
        rw [Bool.and_true]
        rfl
      · show _ = guardS s
        unfold guardS
        rw [hb', h, a0, a1]
        simp
  · have hb' : areBits d = false := by simpa using hb
    refine (x_ifret (p := true) (v_or_t (v_not (c_call (vs_cons (v_var rfl) vs_nil) ((are_bits_ok t hl).trans (by rw [hb']))))) (fun _ => v_cst) fun h => by cases h).trans ?_
    rw [isGuard_no hb']
theorem need_guard_ok (t : typed d = true) (hl : okLen d = true) (h : isGuard d = true) : run P (k + 3) 4 [d] S = .ok .non S := by
  refine run_nx (np := 1) (n := 1) (lams := []) (body := b_need_guard) rfl rfl (seq_end (ρ1 := startEnv 1 [d]) ?_)
  rw [x_ife_f (v_not (c_call (vs_cons (v_var rfl) vs_nil) ((is_guard_ok t hl).trans (by rw [h]))))]
  rfl
theorem need_guard_ex (t : typed d = true) (hl : okLen d = true) (h : isGuard d = false) : run P (k + 3) 4 [d] S = .ex 1 [d] S := by
  refine run_ex (np := 1) (n := 1) (lams := []) (body := b_need_guard) rfl rfl (ex_seq_ex ?_)
  rw [x_ife_t (v_not (c_call (vs_cons (v_var rfl) vs_nil) ((is_guard_ok t hl).trans (by rw [h]))))]
  exact ex_seq_ex (x_rse (vs_cons (v_var rfl) vs_nil))
def fewS (s : List Nat) : Bool := s.all isBit && decide (s.length ≤ 500)
def fewBits : D → Bool
  | .str s => fewS s
  | _ => false
theorem fewBits_no (h : areBits d = false) : fewBits d = false := by
  cases d <;> first | rfl | skip
  have h : (_ : List Nat).all isBit = false := h
  simp only [fewBits, fewS, h, Bool.false_and]
theorem need_bits_p (t : typed d = true) (hl : okLen d = true) : ev (callsIn P.B [] (run P (k + 1))) P.B (.or (.not (.call 2 (.cons (.var 0) .nil))) (.one (.cmp .gt (.bi .len (.var 0)) (.glb 1)))) (startEnv 1 [d]) S = .ok (.bl (!fewBits d)) S := by
  by_cases hb : areBits d = true
  · obtain ⟨s, rfl, hb'⟩ := areBits_str hb
    have hs : s.length ≤ LIM := by simpa [okLen] using hl
    refine v_or (v_not (c_call (vs_cons (v_var rfl) vs_nil) ((are_bits_ok t hl).trans (by rw [hb])))) (fun _ => v_one (v_cmp (v_bi (v_var rfl) (len_str hs)) (v_glb rfl) rfl)) ?_
    show _ = !fewS s
    unfold fewS
    rw [hb']
    by_cases z : s.length ≤ 500 <;> simp [z] <;> omega
  · have hb' : areBits d = false := by simpa using hb
    refine (v_or_t (v_not (c_call (vs_cons (v_var rfl) vs_nil) ((are_bits_ok t hl).trans (by rw [hb']))))).trans ?_
    rw [fewBits_no hb']
    rfl
theorem need_bits_ok (t : typed d = true) (hl : okLen d = true) (h : fewBits d = true) : run P (k + 2) 5 [d] S = .ok .non S := by
  refine run_nx (np := 1) (n := 1) (lams := []) (body := b_need_bits) rfl rfl (seq_end (ρ1 := startEnv 1 [d]) ?_)
  rw [x_ife_f ((need_bits_p t hl).trans (by rw [h]; rfl))]
  rfl
theorem need_bits_ex (t : typed d = true) (hl : okLen d = true) (h : fewBits d = false) : run P (k + 2) 5 [d] S = .ex 1 [d] S := by
  refine run_ex (np := 1) (n := 1) (lams := []) (body := b_need_bits) rfl rfl (ex_seq_ex ?_)
  rw [x_ife_t ((need_bits_p t hl).trans (by rw [h]; rfl))]
  exact ex_seq_ex (x_rse (vs_cons (v_var rfl) vs_nil))
end
end RB.K16

set_option linter.all false
set_option maxRecDepth 100000
set_option maxHeartbeats 4000000
set_option autoImplicit false
namespace RB.K16
open RB

theorem figure_bit {c : Nat} (h : isBit c = true) : bi .int (.str [c]) = some (.int ((c - 48 : Nat) : Int)) := by
  rcases isBit_iff.mp h with rfl | rfl <;> rfl
theorem mul_two (n : Nat) : bin .mul (.int 2) (.int n) = some (.int ((2 * n : Nat) : Int)) := by
  show (if mulOk 2 n then some (D.int (2 * (n : Int))) else none) = _
  rw [if_pos (by simp [mulOk])]
  simp
theorem add_int (a b : Nat) : bin .add (.int a) (.int b) = some (.int ((a + b : Nat) : Int)) := by
  show some (D.int _) = _
  simp
theorem shr_int (a d : Nat) : bin .shr (.int a) (.int d) = some (.int ((a / 2 ^ d : Nat) : Int)) := by
  show (if 0 ≤ (d : Int) then some (D.int ((a : Int) / 2 ^ (d : Int).toNat)) else none) = _
  rw [if_pos (by omega)]
  simp
theorem xor_int (a b : Nat) : bin .xor (.int a) (.int b) = some (.int ((a ^^^ b : Nat) : Int)) := by
  show (if 0 ≤ (a : Int) ∧ 0 ≤ (b : Int) then some (D.int ((Nat.xor (a : Int).toNat (b : Int).toNat : Nat) : Int)) else none) = _
  rw [if_pos ⟨by omega, by omega⟩]
  rfl
theorem signs_get {s : List Nat} {i : Nat} {d : D} (h : (signsOf s)[i]? = some d) : ∃ c, s[i]? = some c ∧ d = .str [c] := by
  unfold signsOf at h
  rw [List.getElem?_map] at h
  cases e : s[i]? with
  | none => rw [e] at h; cases h
  | some c =>
    rw [e] at h
    exact ⟨c, rfl, (Option.some.inj h).symm⟩
theorem foldl_take {α β : Type} (f : β → α → β) (r : β) {s : List α} {i : Nat} {c : α} (h : s[i]? = some c) : (s.take (i + 1)).foldl f r = f ((s.take i).foldl f r) c := by
  rw [List.take_succ, h, List.foldl_append]
  rfl
theorem bits_of_all {s : List Nat} (h : s.all isBit = true) : Bits s := fun c hc => List.all_eq_true.mp h c hc
theorem all_of_bits {s : List Nat} (h : Bits s) : s.all isBit = true := List.all_eq_true.mpr h
section
variable {k : Nat} {S : Store}
theorem int_of_ok {s : List Nat} (hb : Bits s) : run P (k + 1) 7 [.str s] S = .ok (.int (valB s)) S := by
  obtain ⟨ρ', S', h1, h2⟩ := loopF_inv (tg := .nm 2) (b := ex (callsIn P.B [] (run P k)) P.B (.seq (.asg 1 (.bin .add (.bin .mul (.cst (.int 2)) (.var 1)) (.bi .int (.var 2)))) .skip))
    (fun i ρ S' => S' = S ∧ ∃ x, ρ = [some (.str s), some (.int (valB (s.take i))), x]) (signsOf s) 0 [some (.str s), some (.int 0), none] S ⟨rfl, _, rfl⟩ fun i d ρ S' hd ⟨hS, x, hρ⟩ => by
      subst hS hρ
      obtain ⟨c, hc, rfl⟩ := signs_get hd
      rw [Nat.zero_add] at *
      refine ⟨_, _, _, rfl, seq_end (x_asg (v_bin (v_bin v_cst (v_var rfl) (mul_two _)) (v_bi (v_var rfl) (figure_bit (hb c (List.mem_of_getElem? hc)))) (add_int _ _)) (by simp)), rfl, some (.str [c]), ?_⟩
      unfold valB
      rw [foldl_take _ _ hc]
      rfl
  obtain ⟨rfl, x, rfl⟩ := h2
  refine run_rt (np := 1) (n := 3) (lams := []) (body := b_int_of) rfl rfl ?_
  refine (ex_seq (x_asg v_cst (by simp [startEnv]))).trans ((ex_seq (x_for (vi_S (v_var rfl)) h1)).trans (ex_seq_rt (x_ret (v_var ?_))))
  simp [signsOf]
theorem rest_of_ok {g b : List Nat} (hg : GOk g) (hl : g.length ≤ LIM) (hb : Bits b) : run P (k + 2) 6 [.str g, .str b] S = .ok (.int (restN g b)) S := by
  have hdeg : ((g.length : Int) - 1) = ((g.length - 1 : Nat) : Int) := by
    have := hg.two
    omega
  obtain ⟨ρ', S', h1, h2⟩ := loopF_inv (tg := .nm 5) (b := ex (callsIn P.B [] (run P (k + 1))) P.B (.seq (.asg 4 (.bin .add (.bin .mul (.cst (.int 2)) (.var 4)) (.bi .int (.var 5))))
  (.seq (.ife (.cmp .eq (.bin .shr (.var 4) (.var 3)) (.cst (.int 1))) (.seq (.asg 4 (.bin .xor (.var 4) (.var 2)))
  .skip) .skip)
  .skip)))
    (fun i ρ S' => S' = S ∧ ∃ x, ρ = [some (.str g), some (.str b), some (.int (valB g)), some (.int ((g.length - 1 : Nat) : Int)), some (.int (restN g (b.take i))), x]) (signsOf b) 0 [some (.str g), some (.str b), some (.int (valB g)), some (.int ((g.length - 1 : Nat) : Int)), some (.int 0), none] S ⟨rfl, _, rfl⟩ fun i d ρ S' hd ⟨hS, x, hρ⟩ => by
      subst hS hρ
      obtain ⟨c, hc, rfl⟩ := signs_get hd
      rw [Nat.zero_add] at *
      have e : restN g (b.take (i + 1)) = stepN (valB g) (g.length - 1) (restN g (b.take i)) c := by
        unfold restN
        exact foldl_take _ _ hc
      rw [e]
      have s1 : ex (callsIn P.B [] (run P (k + 1))) P.B (.asg 4 (.bin .add (.bin .mul (.cst (.int 2)) (.var 4)) (.bi .int (.var 5)))) [some (.str g), some (.str b), some (.int (valB g)), some (.int ((g.length - 1 : Nat) : Int)), some (.int (restN g (b.take i))), some (.str [c])] S' =
        .ok (.nx [some (.str g), some (.str b), some (.int (valB g)), some (.int ((g.length - 1 : Nat) : Int)), some (.int ((2 * restN g (b.take i) + (c - 48) : Nat) : Int)), some (.str [c])]) S' :=
        x_asg (v_bin (v_bin v_cst (v_var rfl) (mul_two _)) (v_bi (v_var rfl) (figure_bit (hb c (List.mem_of_getElem? hc)))) (add_int _ _)) (by simp)
      refine ⟨_, _, _, rfl, (ex_seq s1).trans ?_, rfl, some (.str [c]), rfl⟩
      unfold stepN
      by_cases z : (2 * restN g (b.take i) + (c - 48)) / 2 ^ (g.length - 1) = 1
      · rw [if_pos z]
        refine seq_end ((x_ife_t (v_cmp (v_bin (v_var rfl) (v_var rfl) (shr_int _ _)) v_cst ?_)).trans (seq_end (x_asg (v_bin (v_var rfl) (v_var rfl) (xor_int _ _)) (by simp))))
        rw [z]
        rfl
      · rw [if_neg z]
        refine seq_end ((x_ife_f (v_cmp (v_bin (v_var rfl) (v_var rfl) (shr_int _ _)) v_cst ?_)).trans rfl)
        generalize (2 * restN g (b.take i) + (c - 48)) / 2 ^ (g.length - 1) = q at z
        show some ((q : Int) == 1) = some false
        congr 1
        exact beq_eq_false_iff_ne.mpr fun z' => z (by omega)
  obtain ⟨rfl, x, rfl⟩ := h2
  refine run_rt (np := 2) (n := 6) (lams := []) (body := b_rest_of) rfl rfl ?_
  refine (ex_seq (x_par (vs_cons (c_call (vs_cons (v_var rfl) vs_nil) (int_of_ok hg.bits)) (vs_cons (v_bin (v_bi (v_var rfl) (len_str hl)) v_cst rfl) (vs_cons v_cst vs_nil))) rfl)).trans ?_
  rw [hdeg]
  refine (ex_seq (x_for (vi_S (v_var rfl)) h1)).trans (ex_seq_rt (x_ret (v_var ?_)))
  simp [signsOf]
end
end RB.K16

set_option linter.all false
set_option maxRecDepth 100000
set_option maxHeartbeats 4000000
set_option autoImplicit false
namespace RB.K16
open RB

theorem gok_of {g : List Nat} (h : guardS g = true) : GOk g ∧ g.length ≤ 9 := by
  unfold guardS at h
  simp only [Bool.and_eq_true, decide_eq_true_eq] at h
  obtain ⟨⟨h1, h2, h3⟩, h4, h5⟩ := h
  exact ⟨⟨bits_of_all h1, h2, h4⟩, h3⟩
theorem few_of {b : List Nat} (h : Bits b) (hl : b.length ≤ 500) : fewBits (.str b) = true := by
  show fewS b = true
  unfold fewS
  rw [all_of_bits h]
  simpa using hl
theorem okLen_str {s : List Nat} (h : s.length ≤ LIM) : okLen (.str s) = true := by simpa [okLen] using h
theorem rep_one (n c : Nat) : rep n [c] = List.replicate n c := by
  unfold rep
  induction n with
  | zero => rfl
  | succ n ih =>
    rw [List.replicate_succ, List.flatten_cons, ih, List.replicate_succ]
    rfl
theorem mul_str {n c : Nat} (h : n ≤ LIM) : bin .mul (.str [c]) (.int n) = some (.str (List.replicate n c)) := by
  show (if [c].length * (n : Int).toNat ≤ LIM ∧ (n : Int).natAbs ≤ LIM then some (D.str (rep (n : Int).toNat [c])) else none) = _
  rw [if_pos ⟨by simpa using h, by simpa using h⟩]
  simp [rep_one]
theorem add_str {a b : List Nat} (h : a.length + b.length ≤ LIM) : bin .add (.str a) (.str b) = some (.str (a ++ b)) := if_pos h
theorem upto_map {α : Type} (n : Nat) (f : D → α) : (upto 0 n).map f = (List.range n).map fun (i : Nat) => f (.int i) := by
  unfold upto
  rw [List.map_map]
  apply List.map_congr_left
  intro i _
  simp
theorem upto_mem {n : Nat} {d : D} (h : d ∈ upto 0 n) : ∃ i, i < n ∧ d = .int (i : Nat) := by
  unfold upto at h
  obtain ⟨i, hi, rfl⟩ := List.mem_map.mp h
  exact ⟨i, List.mem_range.mp hi, by simp⟩
theorem text_bit {n : Nat} (h : n ≤ 1) : bi .str (.int n) = some (.str [48 + n]) := by
  have e0 : intText 0 = [48] := by decide +kernel
  have e1 : intText 1 = [49] := by decide +kernel
  show (if (n : Int).natAbs < 2 ^ 64 then some (D.str (intText n)) else none) = _
  rcases (by omega : n = 0 ∨ n = 1) with rfl | rfl
  · rw [if_pos (by decide)]
    exact congrArg (fun t => some (D.str t)) e0
  · rw [if_pos (by decide)]
    exact congrArg (fun t => some (D.str t)) e1
theorem band_int (a : Nat) : bin .band (.int a) (.int 1) = some (.int ((a % 2 : Nat) : Int)) := by
  show (if 0 ≤ (a : Int) ∧ 0 ≤ (1 : Int) then some (D.int ((Nat.land (a : Int).toNat (1 : Int).toNat : Nat) : Int)) else none) = _
  rw [if_pos ⟨by omega, by omega⟩]
  have : Nat.land a 1 = a % 2 := Nat.and_one_is_mod a
  rw [← this]
  rfl
/-- "".join(..) of texts -/
theorem join_map {α : Type} (f : α → List Nat) (xs : List α) (h : ((xs.map f).map List.length).sum ≤ LIM) : bi2 .join (.str []) (.lst (xs.map fun x => .str (f x))) = some (.str (xs.map f).flatten) := by
  show ((strsOf (xs.map fun x => .str (f x))).bind fun ss => if (ss.map List.length).sum + ss.length * ([] : List Nat).length ≤ LIM then some (D.str (joinS [] ss)) else none) = _
  rw [strsOf_map]
  show (if _ then _ else _) = _
  rw [if_pos (by simpa using h), joinS_nil]
theorem join_ones {α : Type} (f : α → Nat) (xs : List α) (h : xs.length ≤ LIM) : bi2 .join (.str []) (.lst (xs.map fun x => .str [f x])) = some (.str (xs.map f)) := by
  have e : ∀ xs : List α, ((xs.map fun x => [f x]).map List.length).sum = xs.length := fun xs => by
    induction xs with
    | nil => rfl
    | cons x xs ih =>
      rw [List.map_cons, List.map_cons, List.sum_cons, ih, List.length_cons]
      simp
      omega
  have e2 : ∀ xs : List α, (xs.map fun x => [f x]).flatten = xs.map f := fun xs => by
    induction xs with
    | nil => rfl
    | cons x xs ih =>
      rw [List.map_cons, List.flatten_cons, ih]
      rfl
  rw [join_map (fun x => [f x]) xs (by rw [e]; exact h), e2]
theorem sub_len {g : List Nat} (h : 1 ≤ g.length) : bin .sub (.int g.length) (.int 1) = some (.int ((g.length - 1 : Nat) : Int)) := by
  show some (D.int _) = _
  congr 2
  omega
section
variable {k : Nat} {S : Store}
/-- so many bits of a number, as the program writes them -/
theorem bits_of_ok {C : Calls} {B : Base} {ρ : Env} {e : I} {v n d : Nat} (hd : d ≤ LIM) (he : ∀ i < d, ∃ ρ1, setT (.nm v) (.int (i : Nat)) (wipeE ρ [v]) = some ρ1 ∧ ev C B e ρ1 S = .ok (.int ((n / 2 ^ (d - 1 - i) % 2 : Nat) : Int)) S) :
    comp (.nm v) (compF yesG (ev C B (.bi .str e))) (upto 0 d) (wipeE ρ [v]) S = .ok ((List.range d).map fun i => .str [48 + n / 2 ^ (d - 1 - i) % 2]) S := by
  rw [comp_pure (fun x => match x with | .int i => .str [48 + n / 2 ^ (d - 1 - i.toNat) % 2] | x => x) fun x hx => ?_]
  · rw [upto_map]
    simp
  · obtain ⟨i, hi, rfl⟩ := upto_mem hx
    obtain ⟨ρ1, h1, h2⟩ := he i hi
    refine ⟨ρ1, h1, v_bi h2 ?_⟩
    rw [text_bit (by have := Nat.mod_lt (n / 2 ^ (d - 1 - i)) (by omega : 2 > 0); omega)]
    simp
theorem check_bits_ok {g b : List Nat} (hg : guardS g = true) (hb : Bits b) (hl : b.length ≤ 500) : run P (k + 4) 8 [.str g, .str b] S = .ok (.str (binS (restN g (b ++ List.replicate (g.length - 1) 48)) (g.length - 1))) S := by
  obtain ⟨G, g9⟩ := gok_of hg
  have g2 := G.two
  have gl : g.length ≤ LIM := by unfold LIM; omega
  have bl : b.length ≤ LIM := by unfold LIM; omega
  refine run_rt (np := 2) (n := 5) (lams := []) (body := b_check_bits) rfl rfl ?_
  refine (ex_seq (x_expr (c_call (vs_cons (v_var rfl) vs_nil) (need_guard_ok rfl (okLen_str gl) hg)))).trans ?_
  refine (ex_seq (x_expr (c_call (vs_cons (v_var rfl) vs_nil) (need_bits_ok (k := k + 1) rfl (okLen_str bl) (few_of hb hl))))).trans ?_
  refine (ex_seq (x_asg (v_bin (v_bi (v_var rfl) (len_str gl)) v_cst (sub_len (by omega))) (by simp [startEnv]))).trans ?_
  have hz : Bits (b ++ List.replicate (g.length - 1) 48) := Bits.append.mpr ⟨hb, Bits.rep _⟩
  refine (ex_seq (x_asg (c_call (vs_cons (v_var rfl) (vs_cons (v_bin (v_var rfl) (v_bin v_cst (v_var rfl) (mul_str (by unfold LIM; omega))) (add_str (by simp [LIM]; omega))) vs_nil)) (rest_of_ok (k := k + 1) G gl hz)) (by simp [startEnv]))).trans ?_
  refine ex_seq_rt (x_ret (v_mth v_cst rfl (v_cmp0 (vi_r1 (v_var rfl) (by simp [LIM]; omega)) (bits_of_ok (n := restN g (b ++ List.replicate (g.length - 1) 48)) (d := g.length - 1) (by unfold LIM; omega) fun i hi => ⟨_, rfl, ?_⟩) (by simp [LIM]; omega)) ?_))
  · refine v_bin (v_bin (v_var rfl) (v_bin (v_bin (v_var rfl) v_cst rfl) (v_var rfl) ?_) (shr_int _ _)) v_cst (band_int _)
    show some (D.int _) = _
    congr 2
    omega
  · rw [join_ones (fun i => 48 + restN g (b ++ List.replicate (g.length - 1) 48) / 2 ^ (g.length - 1 - 1 - i) % 2) _ (by simp [LIM]; omega)]
    rfl
end
end RB.K16

set_option linter.all false
set_option maxRecDepth 100000
set_option maxHeartbeats 4000000
set_option autoImplicit false
namespace RB.K16
open RB

section
variable {C : Calls} {B : Base} {ρ : Env} {S S1 S2 : Store} {a b : I} {x : D} {o : BOp} {k : Nat} {vs : List D}
theorem v_bin_ex (ha : ev C B a ρ S = .ok x S1) (hb : ev C B b ρ S1 = .ex k vs S2) : ev C B (.bin o a b) ρ S = .ex k vs S2 := by
  simp only [ev, ha, hb, bind_ok, bind_ex]
end
/-- the check signs of b -/
def chk (g b : List Nat) : List Nat := binS (restN g (b ++ List.replicate (g.length - 1) 48)) (g.length - 1)
theorem chk_length (g b : List Nat) : (chk g b).length = g.length - 1 := binS_length _ _
section
variable {k : Nat} {S : Store}
theorem check_bits_ex1 {dg db : D} (t : typed dg = true) (l : okLen dg = true) (h : isGuard dg = false) : run P (k + 4) 8 [dg, db] S = .ex 1 [dg] S :=
  run_ex (np := 2) (n := 5) (lams := []) (body := b_check_bits) rfl rfl (ex_seq_ex (x_expr_ex (c_call_ex (vs_cons (v_var rfl) vs_nil) (need_guard_ex t l h))))
theorem check_bits_ex2 {dg db : D} (t : typed dg = true) (l : okLen dg = true) (h : isGuard dg = true) (t2 : typed db = true) (l2 : okLen db = true) (h2 : fewBits db = false) : run P (k + 4) 8 [dg, db] S = .ex 1 [db] S :=
  run_ex (np := 2) (n := 5) (lams := []) (body := b_check_bits) rfl rfl ((ex_seq (x_expr (c_call (vs_cons (v_var rfl) vs_nil) (need_guard_ok t l h)))).trans (ex_seq_ex (x_expr_ex (c_call_ex (vs_cons (v_var rfl) vs_nil) (need_bits_ex (k := k + 1) t2 l2 h2)))))
theorem guarded_ok {g b : List Nat} (hg : guardS g = true) (hb : Bits b) (hl : b.length ≤ 500) : run P (k + 5) 9 [.str g, .str b] S = .ok (.str (b ++ chk g b)) S := by
  have g9 := (gok_of hg).2
  exact run_rt (np := 2) (n := 2) (lams := []) (body := b_guarded) rfl rfl (ex_seq_rt (x_ret (v_bin (v_var rfl) (c_call (vs_cons (v_var rfl) (vs_cons (v_var rfl) vs_nil)) (check_bits_ok hg hb hl)) (add_str (by rw [binS_length]; unfold LIM; omega)))))
theorem guarded_ex {dg db : D} {vs : List D} (h : run P (k + 4) 8 [dg, db] S = .ex 1 vs S) : run P (k + 5) 9 [dg, db] S = .ex 1 vs S :=
  run_ex (np := 2) (n := 2) (lams := []) (body := b_guarded) rfl rfl (ex_seq_ex (x_ret_ex (v_bin_ex (v_var rfl) (c_call_ex (vs_cons (v_var rfl) (vs_cons (v_var rfl) vs_nil)) h))))
def isGuarded (g : List Nat) : D → Bool
  | .str b => b.all isBit && (decide (g.length - 1 ≤ b.length) && decide (b.length ≤ 508)) && decide (restN g b = 0)
  | _ => false
theorem eq_zero (n : Nat) : cmpD .eq (.int n) (.int 0) = some (decide (n = 0)) := by
  show some ((n : Int) == 0) = _
  congr 1
  by_cases h : n = 0 <;> simp [h]
theorem is_guarded_ok {g : List Nat} {d : D} (hg : guardS g = true) (t : typed d = true) (l : okLen d = true) : run P (k + 4) 10 [.str g, d] S = .ok (.bl (isGuarded g d)) S := by
  obtain ⟨G, g9⟩ := gok_of hg
  have g2 := G.two
  have gl : g.length ≤ LIM := by unfold LIM; omega
  refine run_rt (np := 2) (n := 2) (lams := []) (body := b_is_guarded) rfl rfl ?_
  refine (ex_seq (x_expr (c_call (vs_cons (v_var rfl) vs_nil) (need_guard_ok rfl (okLen_str gl) hg)))).trans ?_
  by_cases hb : areBits d = true
  · obtain ⟨s, rfl, hb'⟩ := areBits_str hb
    have hs : s.length ≤ LIM := by simpa [okLen] using l
    refine x_ifret (p := !(decide (g.length - 1 ≤ s.length) && decide (s.length ≤ 508))) (v_or (v_not (c_call (vs_cons (v_var rfl) vs_nil) ((are_bits_ok (k := k + 2) t l).trans (by rw [hb])))) (fun _ => v_one (v_not (v_chn (v_bin (v_bi (v_var rfl) (len_str gl)) v_cst (sub_len (by omega))) (v_bi (v_var rfl) (len_str hs)) rfl (fun _ => v_bin (v_glb rfl) (v_glb rfl) rfl) fun _ => rfl))) ?_) (fun h => v_cst.trans ?_) fun h => ?_
    · have e1 : decide (((g.length - 1 : Nat) : Int) ≤ s.length) = decide (g.length - 1 ≤ s.length) := by
        by_cases z : g.length - 1 ≤ s.length <;> simp [z] <;> omega
      have e2 : decide ((s.length : Int) ≤ 500 + 8) = decide (s.length ≤ 508) := by
        by_cases z : s.length ≤ 508 <;> simp [z] <;> omega
      rw [e1, e2]
      rfl
    · have h : (decide (g.length - 1 ≤ s.length) && decide (s.length ≤ 508)) = false := Bool.not_eq_true' _ |>.mp h
      show _ = R.ok (D.bl (s.all isBit && (decide (g.length - 1 ≤ s.length) && decide (s.length ≤ 508)) && decide (restN g s = 0))) S
      rw [h]
      simp
    · have h : (decide (g.length - 1 ≤ s.length) && decide (s.length ≤ 508)) = true := Bool.not_eq_false' _ |>.mp h
      refine ex_seq_rt (x_ret ((v_cmp (c_call (vs_cons (v_var rfl) (vs_cons (v_var rfl) vs_nil)) (rest_of_ok (k := k + 1) G gl (bits_of_all hb'))) v_cst (eq_zero _)).trans ?_))
      show _ = R.ok (D.bl (s.all isBit && (decide (g.length - 1 ≤ s.length) && decide (s.length ≤ 508)) && decide (restN g s = 0))) S
      rw [h, hb']
      simp
  · have hb' : areBits d = false := by simpa using hb
    refine (x_ifret (p := true) (v_or_t (v_not (c_call (vs_cons (v_var rfl) vs_nil) ((are_bits_ok (k := k + 2) t l).trans (by rw [hb']))))) (fun _ => v_cst) fun h => by cases h).trans ?_
    have e : isGuarded g d = false := by
      cases d <;> first | rfl | skip
      have h : (_ : List Nat).all isBit = false := hb'
      simp only [isGuarded, h, Bool.false_and]
    rw [e]
theorem is_guarded_ex {dg db : D} (t : typed dg = true) (l : okLen dg = true) (h : isGuard dg = false) : run P (k + 4) 10 [dg, db] S = .ex 1 [dg] S :=
  run_ex (np := 2) (n := 2) (lams := []) (body := b_is_guarded) rfl rfl (ex_seq_ex (x_expr_ex (c_call_ex (vs_cons (v_var rfl) vs_nil) (need_guard_ex t l h))))

/-! ### places -/
def asc : List Int → Bool
  | x :: y :: r => decide (x < y) && asc (y :: r)
  | _ => true
def inRow (m : Int) (ns : List Int) : Bool := ns.all fun n => decide (0 ≤ n) && decide (n ≤ m - 1)
theorem zip_tail : ∀ ns : List Int, zipD (ns.map .int) ((ns.map .int).drop 1) = (ns.zip (ns.drop 1)).map fun p => .tup [.int p.1, .int p.2]
  | [] => rfl
  | [_] => rfl
  | x :: y :: r => by
    have ih := zip_tail (y :: r)
    simp only [List.map_cons, List.drop_succ_cons, List.drop_zero] at ih ⊢
    simp only [zipD, List.zip_cons_cons, List.map_cons]
    rw [ih]
theorem asc_zip : ∀ ns : List Int, (ns.zip (ns.drop 1)).all (fun p => decide (p.1 < p.2)) = asc ns
  | [] => rfl
  | [_] => rfl
  | x :: y :: r => by
    have ih := asc_zip (y :: r)
    simp only [List.drop_succ_cons, List.drop_zero, List.zip_cons_cons, List.all_cons, asc] at ih ⊢
    rw [ih]
theorem cut_one {α : Type} (xs : List α) : cut xs (some 1) none = xs.drop 1 := by
  unfold cut cutIx
  simp only [Int.reduceLT, if_false, Int.toNat_one]
  rw [List.take_of_length_le (by simp)]
  rcases xs with _ | ⟨x, r⟩
  · rfl
  · simp
theorem are_places_ints {ns : List Int} {m : Int} (hl : ns.length ≤ LIM) : run P (k + 3) 12 [.tup (ns.map .int), .int m] S = .ok (.bl (inRow m ns && asc ns)) S := by
  refine run_rt (np := 2) (n := 5) (lams := []) (body := b_are_places) rfl rfl ?_
  have hall : ev (callsIn P.B [] (run P (k + 2))) P.B (.bi .all (.cmp0 (.call 1 (.cons (.var 2) (.cons (.cst (.int 0)) (.cons (.bin .sub (.var 1) (.cst (.int 1))) .nil)))) (.nm 2) (.seqT (.var 0)))) (startEnv 5 [.tup (ns.map .int), .int m]) S = .ok (.bl (inRow m ns)) S := by
    refine v_bi (v_cmp0 (vi_T (v_var rfl)) (comp_pure (fun d => .bl (within d 0 (m - 1))) fun d hd => ?_) (by simpa using hl)) ?_
    · obtain ⟨n, _, rfl⟩ := List.mem_map.mp hd
      exact ⟨_, rfl, c_call (vs_cons (v_var rfl) (vs_cons v_cst (vs_cons (v_bin (v_var rfl) v_cst rfl) vs_nil))) (is_within_ok rfl)⟩
    · rw [List.map_map]
      exact all_bl (fun n : Int => within (.int n) 0 (m - 1)) ns
  refine x_ifret (p := !(inRow m ns)) (v_or_f (v_not (v_isi (v_var rfl) rfl)) (v_one (v_not hall))) (fun h => v_cst.trans ?_) fun h => ?_
  · rw [(Bool.not_eq_true' _).mp h]
    rfl
  · rw [(Bool.not_eq_false' _).mp h, Bool.true_and]
    refine ex_seq_rt (x_ret (v_bi (v_cmp0 (ds := (ns.zip (ns.drop 1)).map fun p => .tup [.int p.1, .int p.2]) (vi_zip (v_var rfl) (v_slc (v_var rfl) (vp_prt v_cst) vp_nil rfl) ?_) (comp_pure (fun d => match d with | .tup [.int a, .int b] => .bl (decide (a < b)) | d => d) fun d hd => ?_) ?_) ?_))
    · show some (zipD (ns.map .int) (cut (ns.map .int) (some 1) none)) = _
      rw [cut_one, zip_tail]
    · obtain ⟨p, _, rfl⟩ := List.mem_map.mp hd
      exact ⟨_, rfl, v_cmp (v_var rfl) (v_var rfl) rfl⟩
    · simp only [List.length_map, List.length_zip]
      omega
    · rw [List.map_map]
      refine (all_bl (fun p : Int × Int => decide (p.1 < p.2)) _).trans ?_
      rw [asc_zip]
theorem are_places_no {d : D} {m : Int} (t : typed d = true) (h : isTy d .tuple = false) : run P (k + 3) 12 [d, .int m] S = .ok (.bl false) S :=
  run_rt (np := 2) (n := 5) (lams := []) (body := b_are_places) rfl rfl (x_ifret (p := true) (v_or_t (v_not (v_isi (v_var rfl) t) (by simp [h]))) (fun _ => v_cst) fun h => by cases h)
theorem are_places_one {d : D} {m : Int} (t : typed d = true) (h : within d 0 (m - 1) = false) : run P (k + 3) 12 [.tup [d], .int m] S = .ok (.bl false) S := by
  refine run_rt (np := 2) (n := 5) (lams := []) (body := b_are_places) rfl rfl (x_ifret (p := true) (v_or_f (v_not (v_isi (v_var rfl) rfl)) (v_one (v_not (v_bi (v_cmp0 (vi_T (v_var rfl)) (comp_pure (fun d => .bl (within d 0 (m - 1))) fun d' hd => ?_) (by simp [LIM])) rfl) ?_))) (fun _ => v_cst) fun h => by cases h)
  · rw [List.mem_singleton.mp hd]
    exact ⟨_, rfl, c_call (vs_cons (v_var rfl) (vs_cons v_cst (vs_cons (v_bin (v_var rfl) v_cst rfl) vs_nil))) (is_within_ok t)⟩
  · show (!(within d 0 (m - 1) && true)) = true
    rw [h]
    rfl
end
end RB.K16

set_option linter.all false
set_option maxRecDepth 100000
set_option maxHeartbeats 4000000
set_option autoImplicit false
namespace RB.K16
open RB

def flipC (c : Nat) : Nat := 97 - c
def flipS (b : List Nat) (ns : List Int) : List Nat := (List.range b.length).map fun (i : Nat) => if ns.contains (i : Int) then flipC (b.getD i 0) else b.getD i 0
theorem flipS_length (b : List Nat) (ns : List Int) : (flipS b ns).length = b.length := by simp [flipS]
theorem getD_bit {b : List Nat} (hb : Bits b) {i : Nat} (h : i < b.length) : isBit (b.getD i 0) = true := by
  rw [List.getD_eq_getElem?_getD, List.getElem?_eq_getElem h]
  exact hb _ (List.getElem_mem h)
theorem flip_bit {c : Nat} (h : isBit c = true) : isBit (flipC c) = true := by
  rcases isBit_iff.mp h with rfl | rfl <;> rfl
theorem flipS_bits {b : List Nat} (hb : Bits b) (ns : List Int) : Bits (flipS b ns) := fun c hc => by
  obtain ⟨i, hi, rfl⟩ := List.mem_map.mp hc
  have := getD_bit hb (List.mem_range.mp hi)
  split
  · exact flip_bit this
  · exact this
theorem all_flat (ns : List Int) : (ns.map D.int).all flat = true := by simp [flat]
theorem any_int (ns : List Int) (i : Int) : (ns.map D.int).any (fun y => pyEq y (.int i)) = ns.contains i := by
  rw [List.any_map]
  induction ns with
  | nil => rfl
  | cons n r ih =>
    rw [List.any_cons, ih, List.contains_cons]
    congr 1
    show (n == i) = (i == n)
    exact Bool.beq_comm
theorem in_tup (ns : List Int) (i : Int) : inD (.int i) (.tup (ns.map .int)) = some (ns.contains i) := by
  show (if flat (.int i) && (ns.map D.int).all flat then _ else none) = _
  rw [all_flat]
  exact congrArg some (any_int ns i)
theorem in_lst (ns : List Int) (i : Int) : inD (.int i) (.lst (ns.map .int)) = some (ns.contains i) := by
  show (if flat (.int i) && (ns.map D.int).all flat then _ else _) = _
  rw [all_flat]
  exact congrArg some (any_int ns i)
theorem enum_signs : ∀ (b : List Nat) (k : Nat), enumD k (signsOf b) = (List.range b.length).map fun i => .tup [.int ((k + i : Nat) : Int), .str [b.getD i 0]]
  | [], _ => rfl
  | c :: r, k => by
    have ih := enum_signs r (k + 1)
    have e : signsOf (c :: r) = .str [c] :: signsOf r := rfl
    rw [e, enumD, ih, List.length_cons, List.range_succ_eq_map, List.map_cons, List.map_map]
    refine List.cons_eq_cons.mpr ⟨rfl, List.map_congr_left fun i _ => ?_⟩
    simp only [Function.comp, List.getD_cons_succ]
    congr 3
    omega
theorem flip_text {c : Nat} (h : isBit c = true) {C : Calls} {B : Base} {ρ : Env} {S : Store} {e : I} (he : ev C B e ρ S = .ok (.str [c]) S) : ev C B (.bi .str (.bin .sub (.cst (.int 1)) (.bi .int e))) ρ S = .ok (.str [flipC c]) S := by
  refine v_bi (v_bin v_cst (v_bi he (figure_bit h)) rfl) ?_
  rcases isBit_iff.mp h with rfl | rfl
  · exact text_bit (n := 1) (by omega)
  · exact text_bit (n := 0) (by omega)
section
variable {k : Nat} {S : Store}
theorem flipped_ok {b : List Nat} {ns : List Int} (hb : Bits b) (hl : b.length ≤ LIM) (hn : ns.length ≤ LIM) (h : (inRow b.length ns && asc ns) = true) : run P (k + 4) 11 [.str b, .tup (ns.map .int)] S = .ok (.str (flipS b ns)) S := by
  refine run_rt (np := 2) (n := 4) (lams := []) (body := b_flipped) rfl rfl ?_
  refine (ex_seq ((x_ife_f (v_not (c_call (vs_cons (v_var rfl) (vs_cons (v_bi (v_var rfl) (len_str hl)) vs_nil)) (are_places_ints hn)) (by rw [h]; rfl))).trans rfl)).trans ?_
  refine ex_seq_rt (x_ret (v_mth v_cst rfl (v_cmp0 (vi_eS (v_var rfl) hl) (comp_pure (fun d => match d with | .tup [.int i, .str [c]] => .str [if ns.contains i then flipC c else c] | d => d) fun d hd => ?_) (by rw [enum_signs]; simpa using hl)) ?_))
  · rw [enum_signs] at hd
    obtain ⟨i, hi, rfl⟩ := List.mem_map.mp hd
    have hc := getD_bit hb (List.mem_range.mp hi)
    refine ⟨_, rfl, v_ife (v_cmp (v_var rfl) (v_var rfl) (in_tup ns _)) (fun h => ?_) fun h => ?_⟩
    · dsimp only
      rw [h, if_pos rfl]
      exact flip_text hc (v_var rfl)
    · dsimp only
      rw [h, if_neg (by decide)]
      exact v_var rfl
  · rw [enum_signs, List.map_map]
    refine (join_ones (fun i : Nat => if ns.contains (i : Int) then flipC (b.getD i 0) else b.getD i 0) (List.range b.length) (by simpa using hl) |> fun e => Eq.trans (congrArg (fun l => bi2 .join (.str []) (.lst l)) (List.map_congr_left fun i _ => ?_)) e)
    simp only [Function.comp, Nat.zero_add]
theorem flipped_ex {b : List Nat} {d : D} (hl : b.length ≤ LIM) (h : run P (k + 3) 12 [d, .int b.length] S = .ok (.bl false) S) : run P (k + 4) 11 [.str b, d] S = .ex 1 [d] S := by
  refine run_ex (np := 2) (n := 4) (lams := []) (body := b_flipped) rfl rfl (ex_seq_ex ?_)
  rw [x_ife_t (v_not (c_call (vs_cons (v_var rfl) (vs_cons (v_bi (v_var rfl) (len_str hl)) vs_nil)) h))]
  exact ex_seq_ex (x_rse (vs_cons (v_var rfl) vs_nil))
theorem law_flips_ok {b : List Nat} {ns : List Int} {ps : D} (hb : Bits b) (hl : b.length ≤ LIM) (hp : ∀ i : Int, inD (.int i) ps = some (ns.contains i)) : run P (k + 1) 26 [.str b, ps] S = .ok (.str (flipS b ns)) S := by
  refine run_rt (np := 2) (n := 3) (lams := []) (body := b__law_flips) rfl rfl ?_
  refine ex_seq_rt (x_ret (v_mth v_cst rfl (v_cmp0 (vi_r1 (v_bi (v_var rfl) (len_str hl)) (by simpa using hl)) (comp_pure (fun d => match d with | .int i => .str [if ns.contains i then flipC (b.getD i.toNat 0) else b.getD i.toNat 0] | d => d) fun d hd => ?_) (by simpa [upto] using hl)) ?_))
  · obtain ⟨i, hi, rfl⟩ := upto_mem hd
    have hi : i < b.length := by simpa using hi
    have hc := getD_bit hb hi
    have hat : idxS S (.str b) (.int (i : Nat)) = some (.str [b.getD i 0]) := idx_str hl (by
      unfold at? ixOf
      rw [if_pos (by omega), if_pos (by omega)]
      show b[(i : Int).toNat]? = _
      rw [Int.toNat_natCast, List.getD_eq_getElem?_getD, List.getElem?_eq_getElem hi]
      rfl)
    refine ⟨_, rfl, v_ife (v_cmp (v_var rfl) (v_var rfl) (hp _)) (fun h => ?_) fun h => ?_⟩
    · dsimp only
      rw [h, if_pos rfl]
      exact flip_text hc (v_idx (v_var rfl) (v_var rfl) hat)
    · dsimp only
      rw [h, if_neg (by decide)]
      exact v_idx (v_var rfl) (v_var rfl) hat
  · rw [upto_map]
    refine (join_ones (fun i : Nat => if ns.contains (i : Int) then flipC (b.getD i 0) else b.getD i 0) (List.range b.length) (by simpa using hl) |> fun e => Eq.trans (congrArg (fun l => bi2 .join (.str []) (.lst l)) ?_) e)
    simp only [Int.toNat_natCast]
def markS (m : Nat) (ns : List Int) : List Nat := (List.range m).map fun (i : Nat) => if ns.contains (i : Int) then 49 else 48
theorem markS_bits (m : Nat) (ns : List Int) : Bits (markS m ns) := fun c hc => by
  obtain ⟨i, _, rfl⟩ := List.mem_map.mp hc
  split <;> rfl
theorem marks_flip (m : Nat) (ns : List Int) : flipS (List.replicate m 48) ns = markS m ns := by
  unfold flipS markS
  rw [List.length_replicate]
  refine List.map_congr_left fun i hi => ?_
  have hi := List.mem_range.mp hi
  have e : (List.replicate m 48).getD i 0 = 48 := by
    rw [List.getD_eq_getElem?_getD, List.getElem?_replicate, if_pos hi]
    rfl
  rw [e]
  rfl
def fitMany (g : List Nat) (d : D) : Bool := within d ((g.length - 1 : Nat) : Int) 508
theorem need_many_ok {g : List Nat} {d : D} (hl : 1 ≤ g.length ∧ g.length ≤ LIM) (t : typed d = true) (h : fitMany g d = true) : run P (k + 3) 14 [.str g, d] S = .ok .non S := by
  refine run_nx (np := 2) (n := 2) (lams := []) (body := b_need_many) rfl rfl (seq_end (ρ1 := startEnv 2 [.str g, d]) ?_)
  refine (x_ife_f (v_not (c_call (vs_cons (v_var rfl) (vs_cons (v_bin (v_bi (v_var rfl) (len_str hl.2)) v_cst (sub_len hl.1)) (vs_cons (v_bin (v_glb rfl) (v_glb rfl) rfl) vs_nil))) (is_within_ok t)) ?_)).trans rfl
  show (!fitMany g d) = false
  rw [h]
  rfl
theorem need_many_ex {g : List Nat} {d : D} (hl : 1 ≤ g.length ∧ g.length ≤ LIM) (t : typed d = true) (h : fitMany g d = false) : run P (k + 3) 14 [.str g, d] S = .ex 1 [d] S := by
  refine run_ex (np := 2) (n := 2) (lams := []) (body := b_need_many) rfl rfl (ex_seq_ex ?_)
  refine (x_ife_t (v_not (c_call (vs_cons (v_var rfl) (vs_cons (v_bin (v_bi (v_var rfl) (len_str hl.2)) v_cst (sub_len hl.1)) (vs_cons (v_bin (v_glb rfl) (v_glb rfl) rfl) vs_nil))) (is_within_ok t)) ?_)).trans (ex_seq_ex (x_rse (vs_cons (v_var rfl) vs_nil)))
  show (!fitMany g d) = true
  rw [h]
  rfl
theorem are_unseen_ok {g : List Nat} {m : Nat} {ns : List Int} (hg : guardS g = true) (hm : fitMany g (.int m) = true) (hn : ns.length ≤ LIM) (h : (inRow m ns && asc ns) = true) :
    run P (k + 4) 13 [.str g, .int m, .tup (ns.map .int)] S = .ok (.bl (decide (restN g (markS m ns) = 0))) S := by
  obtain ⟨G, g9⟩ := gok_of hg
  have g2 := G.two
  have gl : g.length ≤ LIM := by unfold LIM; omega
  have ml : m ≤ LIM := by
    have : (m : Int) ≤ 508 := by
      unfold fitMany within at hm
      simp only [Bool.and_eq_true, decide_eq_true_eq] at hm
      exact hm.2
    unfold LIM
    omega
  refine run_rt (np := 3) (n := 4) (lams := []) (body := b_are_unseen) rfl rfl ?_
  refine (ex_seq (x_expr (c_call (vs_cons (v_var rfl) vs_nil) (need_guard_ok rfl (okLen_str gl) hg)))).trans ?_
  refine (ex_seq (x_expr (c_call (vs_cons (v_var rfl) (vs_cons (v_var rfl) vs_nil)) (need_many_ok ⟨by omega, gl⟩ rfl hm)))).trans ?_
  refine (ex_seq ((x_ife_f (v_not (c_call (vs_cons (v_var rfl) (vs_cons (v_var rfl) vs_nil)) (are_places_ints hn)) (by rw [h]; rfl))).trans rfl)).trans ?_
  refine ex_seq_rt (x_ret (v_cmp (c_call (vs_cons (v_var rfl) (vs_cons (v_mth v_cst rfl (v_cmp0 (vi_r1 (v_var rfl) (by simpa using ml)) (comp_pure (fun d => match d with | .int i => .str [if ns.contains i then 49 else 48] | d => d) fun d hd => ?_) (by simpa [upto] using ml)) ?_) vs_nil)) (rest_of_ok (k := k + 1) G gl (markS_bits m ns))) v_cst (eq_zero _)))
  · obtain ⟨i, hi, rfl⟩ := upto_mem hd
    refine ⟨_, rfl, v_ife (v_cmp (v_var rfl) (v_var rfl) (in_tup ns _)) (fun h => ?_) fun h => ?_⟩
    · dsimp only
      rw [h]
      rfl
    · dsimp only
      rw [h]
      rfl
  · rw [upto_map]
    exact join_ones (fun i : Nat => if ns.contains (i : Int) then 49 else 48) (List.range m) (by simpa using ml)
theorem are_unseen_ex1 {dg dm dp : D} (t : typed dg = true) (l : okLen dg = true) (h : isGuard dg = false) : run P (k + 4) 13 [dg, dm, dp] S = .ex 1 [dg] S :=
  run_ex (np := 3) (n := 4) (lams := []) (body := b_are_unseen) rfl rfl (ex_seq_ex (x_expr_ex (c_call_ex (vs_cons (v_var rfl) vs_nil) (need_guard_ex t l h))))
theorem are_unseen_ex2 {g : List Nat} {dm dp : D} (hg : guardS g = true) (t : typed dm = true) (h : fitMany g dm = false) : run P (k + 4) 13 [.str g, dm, dp] S = .ex 1 [dm] S := by
  obtain ⟨G, g9⟩ := gok_of hg
  have g2 := G.two
  have gl : g.length ≤ LIM := by unfold LIM; omega
  exact run_ex (np := 3) (n := 4) (lams := []) (body := b_are_unseen) rfl rfl ((ex_seq (x_expr (c_call (vs_cons (v_var rfl) vs_nil) (need_guard_ok rfl (okLen_str gl) hg)))).trans (ex_seq_ex (x_expr_ex (c_call_ex (vs_cons (v_var rfl) (vs_cons (v_var rfl) vs_nil)) (need_many_ex ⟨by omega, gl⟩ t h)))))
theorem are_unseen_ex3 {g : List Nat} {m : Int} {dp : D} (hg : guardS g = true) (hm : fitMany g (.int m) = true) (h : run P (k + 3) 12 [dp, .int m] S = .ok (.bl false) S) : run P (k + 4) 13 [.str g, .int m, dp] S = .ex 1 [dp] S := by
  obtain ⟨G, g9⟩ := gok_of hg
  have g2 := G.two
  have gl : g.length ≤ LIM := by unfold LIM; omega
  refine run_ex (np := 3) (n := 4) (lams := []) (body := b_are_unseen) rfl rfl ((ex_seq (x_expr (c_call (vs_cons (v_var rfl) vs_nil) (need_guard_ok rfl (okLen_str gl) hg)))).trans ((ex_seq (x_expr (c_call (vs_cons (v_var rfl) (vs_cons (v_var rfl) vs_nil)) (need_many_ok ⟨by omega, gl⟩ rfl hm)))).trans (ex_seq_ex ?_)))
  rw [x_ife_t (v_not (c_call (vs_cons (v_var rfl) (vs_cons (v_var rfl) vs_nil)) h))]
  exact ex_seq_ex (x_rse (vs_cons (v_var rfl) vs_nil))
end
end RB.K16

set_option linter.all false
set_option maxRecDepth 100000
set_option maxHeartbeats 4000000
set_option autoImplicit false
namespace RB.K16
open RB

theorem mod_ok {x m : Int} (h : 0 < m) : bin .mod (.int x) (.int m) = some (.int (x % m)) := if_pos h
theorem div_ok {x m : Int} (h : 0 < m) (h2 : m < 1073741824) : bin .fdiv (.int x) (.int m) = some (.int (x / m)) := if_pos ⟨h, h2⟩
theorem mul_ok {x m : Int} (h : m.natAbs < 2 ^ 64) : bin .mul (.int x) (.int m) = some (.int (x * m)) := if_pos (by
  unfold mulOk
  rw [decide_eq_true h]
  simp)
/-- the law's row -/
def rowS (ns : List Int) (i r2 r3 : Int) : Store := [.lst [.scr ns, .int i, .int r2, .int r3]]
def RowOk (ns : List Int) (S : Store) : Prop := ∃ i r2 r3 : Int, S = rowS ns i r2 r3 ∧ 0 ≤ i
theorem gt_t {a b : Int} (h : b < a) : cmpD .gt (.int a) (.int b) = some true := congrArg some (decide_eq_true h)
theorem gt_f {a b : Int} (h : ¬ b < a) : cmpD .gt (.int a) (.int b) = some false := congrArg some (decide_eq_false h)
theorem ge_t {a b : Int} (h : b ≤ a) : cmpD .ge (.int a) (.int b) = some true := congrArg some (decide_eq_true h)
theorem ge_f {a b : Int} (h : ¬ b ≤ a) : cmpD .ge (.int a) (.int b) = some false := congrArg some (decide_eq_false h)
section
variable {k : Nat} {ns : List Int} {i r2 r3 : Int}
theorem taken_ok {S : Store} {m : Int} (h : RowOk ns S) (h0 : 0 < m) (h1 : m < 1073741824) : ∃ v S', run P (k + 1) 15 [.ref 0, .int m] S = .ok (.int v) S' ∧ 0 ≤ v ∧ v < m ∧ RowOk ns S' := by
  obtain ⟨i, r2, r3, rfl, hi⟩ := h
  have md : ∀ x : Int, 0 ≤ x % m ∧ x % m < m := fun x => ⟨Int.emod_nonneg _ (by omega), Int.emod_lt_of_pos _ h0⟩
  by_cases c1 : 0 < r3
  · refine ⟨r3 % m, rowS ns i r2 (r3 / m), ?_, (md _).1, (md _).2, _, _, _, rfl, hi⟩
    refine run_rt (np := 2) (n := 4) (lams := []) (body := b__law_taken) rfl rfl (ex_seq_rt ?_)
    refine (x_ife_t (v_cmp (v_idx (v_var rfl) v_cst rfl) v_cst (gt_t c1))).trans ?_
    refine (ex_seq (x_asg (v_bin (v_bi (v_idx (v_var rfl) v_cst rfl) rfl) (v_var rfl) (mod_ok h0)) (by simp [startEnv]))).trans ?_
    refine (ex_seq (x_setS (v_bin (v_idx (v_var rfl) v_cst rfl) (v_var rfl) (div_ok h0 h1)) (v_var rfl) v_cst rfl rfl)).trans ?_
    exact ex_seq_rt (x_ret (v_var rfl))
  · by_cases c2 : (ns.length : Int) < i + 1
    · refine ⟨((r2 * 48271 + 11) % 2147483647 / 7) % m, rowS ns (i + 1) ((r2 * 48271 + 11) % 2147483647) r3, ?_, (md _).1, (md _).2, _, _, _, rfl, by omega⟩
      refine run_rt (np := 2) (n := 4) (lams := []) (body := b__law_taken) rfl rfl ?_
      refine (ex_seq ((x_ife_f (v_cmp (v_idx (v_var rfl) v_cst rfl) v_cst (gt_f c1))).trans rfl)).trans ?_
      refine (ex_seq (x_setS (v_bin (v_idx (v_var rfl) v_cst rfl) v_cst rfl) (v_var rfl) v_cst rfl rfl)).trans ?_
      refine ex_seq_rt ((x_ife_t (v_cmp (v_idx (v_var rfl) v_cst rfl) (v_bi (v_idx (v_var rfl) v_cst rfl) rfl) (gt_t c2))).trans ?_)
      refine (ex_seq (x_setS (v_bin (v_bi (v_bin (v_bin (v_idx (v_var rfl) v_cst rfl) v_cst (mul_ok (by decide))) v_cst rfl) rfl) v_cst (mod_ok (by decide))) (v_var rfl) v_cst rfl rfl)).trans ?_
      exact ex_seq_rt (x_ret (v_bin (v_bi (v_bin (v_idx (v_var rfl) v_cst rfl) v_cst (div_ok (by decide) (by decide))) rfl) (v_var rfl) (mod_ok h0)))
    · have hlt : i.toNat < ns.length := by omega
      have hat : at? ns (i + 1 - 1) = some ns[i.toNat] := by
        unfold at? ixOf
        rw [if_pos (by omega), if_pos (by omega)]
        show ns[(i + 1 - 1).toNat]? = _
        rw [show i + 1 - 1 = i by omega, List.getElem?_eq_getElem hlt]
      generalize ns[i.toNat] = cell at hat
      have hix : ∀ S, idxS S (.scr ns) (.int (i + 1 - 1)) = some (.int cell) := fun S => by
        show (at? ns (i + 1 - 1)).map D.int = _
        rw [hat]
        rfl
      have pre : ∀ {r : R Fl}, ex (callsIn P.B [] (run P k)) P.B (.seq (.setS (.var 0) (.cst (.int 2)) (.bin .mod (.bi .int (.bin .add (.bin .add (.bin .mul (.idx (.var 0) (.cst (.int 2))) (.cst (.int 48271))) (.var 3)) (.cst (.int 11)))) (.cst (.int 2147483647))))
          (.seq (.ife (.cmp .ge (.var 3) (.bin .pow (.cst (.int 10)) (.cst (.int 18)))) (.seq (.setS (.var 0) (.cst (.int 3)) (.bin .fdiv (.var 3) (.var 1)))
            (.seq (.ret (.bin .mod (.bi .int (.var 3)) (.var 1))) .skip)) .skip)
          (.seq (.ret (.bin .mod (.bi .int (.bin .add (.bin .mul (.bin .mod (.bi .int (.var 3)) (.cst (.int 1000003))) (.cst (.int 31))) (.bin .fdiv (.idx (.var 0) (.cst (.int 2))) (.cst (.int 11))))) (.var 1))) .skip))) [some (.ref 0), some (.int m), none, some (.int cell)] (rowS ns (i + 1) r2 r3) = r →
          ex (callsIn P.B [] (run P k)) P.B b__law_taken (startEnv 4 [.ref 0, .int m]) (rowS ns i r2 r3) = r := fun {r} e => by
        refine (ex_seq ((x_ife_f (v_cmp (v_idx (v_var rfl) v_cst rfl) v_cst (gt_f c1))).trans rfl)).trans ?_
        refine (ex_seq (x_setS (v_bin (v_idx (v_var rfl) v_cst rfl) v_cst rfl) (v_var rfl) v_cst rfl rfl)).trans ?_
        refine (ex_seq ((x_ife_f (v_cmp (v_idx (v_var rfl) v_cst rfl) (v_bi (v_idx (v_var rfl) v_cst rfl) rfl) (gt_f c2))).trans rfl)).trans ?_
        refine (ex_seq (x_asg (v_idx (v_idx (v_var rfl) v_cst rfl) (v_bin (v_idx (v_var rfl) v_cst rfl) v_cst rfl) (hix _)) (by simp [startEnv]))).trans ?_
        exact e
      have r2' : ∀ e : Store, e = rowS ns (i + 1) ((r2 * 48271 + cell + 11) % 2147483647) r3 → e = e := fun _ _ => rfl
      by_cases c3 : (10 : Int) ^ 18 ≤ cell
      · refine ⟨cell % m, rowS ns (i + 1) ((r2 * 48271 + cell + 11) % 2147483647) (cell / m), ?_, (md _).1, (md _).2, _, _, _, rfl, by omega⟩
        refine run_rt (np := 2) (n := 4) (lams := []) (body := b__law_taken) rfl rfl (pre ?_)
        refine (ex_seq (x_setS (v_bin (v_bi (v_bin (v_bin (v_bin (v_idx (v_var rfl) v_cst rfl) v_cst (mul_ok (by decide))) (v_var rfl) rfl) v_cst rfl) rfl) v_cst (mod_ok (by decide))) (v_var rfl) v_cst rfl rfl)).trans ?_
        refine ex_seq_rt ((x_ife_t (v_cmp (v_var rfl) (v_bin v_cst v_cst rfl) (ge_t c3))).trans ?_)
        refine (ex_seq (x_setS (v_bin (v_var rfl) (v_var rfl) (div_ok h0 h1)) (v_var rfl) v_cst rfl rfl)).trans ?_
        exact ex_seq_rt (x_ret (v_bin (v_bi (v_var rfl) rfl) (v_var rfl) (mod_ok h0)))
      · refine ⟨(cell % 1000003 * 31 + (r2 * 48271 + cell + 11) % 2147483647 / 11) % m, rowS ns (i + 1) ((r2 * 48271 + cell + 11) % 2147483647) r3, ?_, (md _).1, (md _).2, _, _, _, rfl, by omega⟩
        refine run_rt (np := 2) (n := 4) (lams := []) (body := b__law_taken) rfl rfl (pre ?_)
        refine (ex_seq (x_setS (v_bin (v_bi (v_bin (v_bin (v_bin (v_idx (v_var rfl) v_cst rfl) v_cst (mul_ok (by decide))) (v_var rfl) rfl) v_cst rfl) rfl) v_cst (mod_ok (by decide))) (v_var rfl) v_cst rfl rfl)).trans ?_
        refine (ex_seq ((x_ife_f (v_cmp (v_var rfl) (v_bin v_cst v_cst rfl) (ge_f c3))).trans rfl)).trans ?_
        exact ex_seq_rt (x_ret (v_bin (v_bi (v_bin (v_bin (v_bin (v_bi (v_var rfl) rfl) v_cst (mod_ok (by decide))) v_cst (mul_ok (by decide))) (v_bin (v_idx (v_var rfl) v_cst rfl) v_cst (div_ok (by decide) (by decide))) rfl) rfl) (v_var rfl) (mod_ok h0)))
/-- one of some things -/
theorem pick_ok {S : Store} {ds : List D} (h : RowOk ns S) (h0 : 0 < ds.length) (h1 : ds.length ≤ 1000) : ∃ d S', run P (k + 2) 16 [.ref 0, .lst ds] S = .ok d S' ∧ d ∈ ds ∧ RowOk ns S' := by
  obtain ⟨v, S', e, v0, v1, hr⟩ := taken_ok (k := k) (m := ds.length) h (by omega) (by omega)
  have hv : v.toNat < ds.length := by omega
  refine ⟨ds[v.toNat], S', ?_, List.getElem_mem hv, hr⟩
  refine run_rt (np := 2) (n := 2) (lams := []) (body := b__law_pick) rfl rfl (ex_seq_rt (x_ret (v_idx (v_var rfl) (c_call (vs_cons (v_var rfl) (vs_cons (v_bi (v_var rfl) rfl) vs_nil)) e) ?_)))
  show at? ds v = _
  unfold at? ixOf
  rw [if_pos v0, if_pos v1]
  exact List.getElem?_eq_getElem hv
end
section
variable {k : Nat} {S : Store}
theorem power_ok {n : Nat} (hn : n ≤ 60) : run P (k + 1) 19 [.int 2, .int n] S = .ok (.int ((2 ^ n : Nat) : Int)) S := by
  obtain ⟨ρ', S', h1, h2⟩ := loopF_inv (tg := .nm 3) (b := ex (callsIn P.B [] (run P k)) P.B (.seq (.asg 2 (.bin .mul (.var 2) (.var 0))) .skip))
    (fun i ρ S' => S' = S ∧ ∃ x, ρ = [some (.int 2), some (.int n), some (.int ((2 ^ i : Nat) : Int)), x]) (upto 0 n) 0 [some (.int 2), some (.int n), some (.int 1), none] S ⟨rfl, _, rfl⟩ fun i d ρ S' hd ⟨hS, x, hρ⟩ => by
      subst hS hρ
      rw [Nat.zero_add] at *
      refine ⟨_, _, _, rfl, seq_end (x_asg (v_bin (v_var rfl) (v_var rfl) (mul_ok (by decide))) (by simp)), rfl, some d, ?_⟩
      have e : ((2 ^ i : Nat) : Int) * 2 = ((2 ^ (i + 1) : Nat) : Int) := by
        rw [Nat.pow_succ]
        push_cast
        rfl
      rw [e]
      rfl
  obtain ⟨rfl, x, rfl⟩ := h2
  refine run_rt (np := 2) (n := 4) (lams := []) (body := b__law_power) rfl rfl ?_
  refine (ex_seq (x_asg v_cst (by simp [startEnv]))).trans ((ex_seq (x_for (vi_r1 (v_var rfl) (by simp [LIM]; omega)) h1)).trans (ex_seq_rt (x_ret (v_var ?_))))
  simp [upto]
theorem binary_ok {n d : Nat} (hd : d ≤ 30) : run P (k + 2) 20 [.int n, .int d] S = .ok (.str (binS n d)) S := by
  refine run_rt (np := 2) (n := 3) (lams := []) (body := b__law_binary) rfl rfl ?_
  refine ex_seq_rt (x_ret (v_mth v_cst rfl (v_cmp0 (vi_r1 (v_var rfl) (by simp [LIM]; omega)) (bits_of_ok (n := n) (d := d) (by unfold LIM; omega) fun i hi => ⟨_, rfl, ?_⟩) (by simp [LIM]; omega)) ?_))
  · have hp : 2 ^ (d - 1 - i) < 2 ^ 30 := Nat.pow_lt_pow_right (by decide) (by omega)
    have hp0 : 0 < 2 ^ (d - 1 - i) := Nat.pow_pos (by decide)
    refine v_bin (v_bin (v_var rfl) (c_call (vs_cons v_cst (vs_cons (v_bin (v_bin (v_var rfl) v_cst rfl) (v_var rfl) (show some (D.int ((d : Int) - 1 - i)) = some (D.int ((d - 1 - i : Nat) : Int)) by congr 2; omega)) vs_nil)) (power_ok (by omega))) (div_ok (by omega) (by omega))) v_cst ?_
    exact (mod_ok (by decide)).trans rfl
  · rw [join_ones (fun i => 48 + n / 2 ^ (d - 1 - i) % 2) _ (by simp [LIM]; omega)]
    rfl
end
end RB.K16

set_option linter.all false
set_option maxRecDepth 100000
set_option maxHeartbeats 4000000
set_option autoImplicit false
namespace RB.K16
open RB

theorem first_of {s : List Nat} {c : Nat} (h : s[0]? = some c) : at? s 0 = some c := by
  cases s with
  | nil => cases h
  | cons x r => simpa [at?, ixOf] using h
theorem at_nat {s : List Nat} {i : Nat} (h : i < s.length) : at? s (i : Int) = some (s.getD i 0) := by
  unfold at? ixOf
  rw [if_pos (by omega), if_pos (by omega)]
  show s[(i : Int).toNat]? = _
  rw [Int.toNat_natCast, List.getD_eq_getElem?_getD, List.getElem?_eq_getElem h]
  rfl
theorem xorS_range {a b : List Nat} (h : a.length = b.length) : xorS a b = (List.range a.length).map fun i => 48 + (a.getD i 0 - 48 + (b.getD i 0 - 48)) % 2 := by
  apply List.ext_getElem
  · rw [xorS_length h]
    simp
  · intro i h1 h2
    rw [xorS_length h] at h1
    have h3 : i < b.length := by omega
    simp only [xorS, List.getElem_zipWith, List.getElem_map, List.getElem_range, List.getD_eq_getElem?_getD, List.getElem?_eq_getElem h1, List.getElem?_eq_getElem h3, Option.getD_some]
def restLoop : T := (.seq (.asg 3 (.bin .add (.var 3) (.var 4)))
  (.seq (.ife (.and (.cmp .gt (.bi .len (.var 3)) (.var 2)) (.one (.cmp .eq (.idx (.var 3) (.cst (.int 0))) (.cst (.str [49]))))) (.seq (.asg 3 (.mth .join (.cst (.str [])) (.cmp0 (.bi .str (.bin .mod (.bin .add (.bi .int (.idx (.var 3) (.var 5))) (.bi .int (.idx (.var 0) (.var 5)))) (.cst (.int 2)))) (.nm 5) (.rng1 (.bi .len (.var 3))))))
  .skip) .skip)
  (.seq (.asg 3 (.ife (.cmp .gt (.bi .len (.var 3)) (.var 2)) (.slc (.var 3) (.prt (.cst (.int 1))) .nil) (.var 3)))
  .skip)))
section
variable {k : Nat} {S : Store} {C : Calls}
theorem rest_step {g b now : List Nat} {c : Nat} (hg : GOk g) (g9 : g.length ≤ 9) (hn : Bits now) (hl : now.length ≤ g.length - 1) (hc : isBit c = true) :
    ex C P.B restLoop [some (.str g), some (.str b), some (.int ((g.length - 1 : Nat) : Int)), some (.str now), some (.str [c]), none] S =
      .ok (.nx [some (.str g), some (.str b), some (.int ((g.length - 1 : Nat) : Int)), some (.str (lstep g now c)), some (.str [c]), none]) S := by
  have g2 := hg.two
  have hb1 : Bits (now ++ [c]) := Bits.append.mpr ⟨hn, fun x hx => by rw [List.mem_singleton.mp hx]; exact hc⟩
  have hlen : (now ++ [c]).length = now.length + 1 := by simp
  refine (ex_seq (x_asg (v_bin (v_var rfl) (v_var rfl) (add_str (by simp [LIM]; omega))) (by simp))).trans ?_
  unfold lstep
  generalize now ++ [c] = n1 at hb1 hlen
  have n1l : n1.length ≤ LIM := by unfold LIM; omega
  have gtl : ∀ n : Nat, cmpD .gt (.int n) (.int ((g.length - 1 : Nat) : Int)) = some (decide (g.length - 1 < n)) := fun n => by
    show some (decide _) = _
    congr 1
    by_cases z : g.length - 1 < n <;> simp [z] <;> omega
  -- the third statement
  have last : ∀ n2 : List Nat, n2.length ≤ LIM → ex C P.B (.seq (.asg 3 (.ife (.cmp .gt (.bi .len (.var 3)) (.var 2)) (.slc (.var 3) (.prt (.cst (.int 1))) .nil) (.var 3))) .skip) [some (.str g), some (.str b), some (.int ((g.length - 1 : Nat) : Int)), some (.str n2), some (.str [c]), none] S =
      .ok (.nx [some (.str g), some (.str b), some (.int ((g.length - 1 : Nat) : Int)), some (.str (if n2.length > g.length - 1 then n2.drop 1 else n2)), some (.str [c]), none]) S := fun n2 l2 => by
    refine seq_end (x_asg (v_ife (v_cmp (v_bi (v_var rfl) (len_str l2)) (v_var rfl) (gtl _)) (fun h => v_slc (v_var rfl) (vp_prt v_cst) vp_nil ?_) fun h => (v_var rfl).trans ?_) (by simp))
    · rw [if_pos (show n2.length > g.length - 1 by simpa using h), ← cut_one]
      exact if_pos l2
    · rw [if_neg (show ¬ n2.length > g.length - 1 by simpa using h)]
  have hc0 : ∃ c0, n1[0]? = some c0 := ⟨n1[0]'(by omega), List.getElem?_eq_getElem (by omega)⟩
  obtain ⟨c0, hc0⟩ := hc0
  have cond : ev C P.B (.and (.cmp .gt (.bi .len (.var 3)) (.var 2)) (.one (.cmp .eq (.idx (.var 3) (.cst (.int 0))) (.cst (.str [49]))))) [some (.str g), some (.str b), some (.int ((g.length - 1 : Nat) : Int)), some (.str n1), some (.str [c]), none] S = .ok (.bl (decide (g.length - 1 < n1.length) && decide (c0 = 49))) S := by
    refine v_and (v_cmp (v_bi (v_var rfl) (len_str n1l)) (v_var rfl) (gtl _)) (fun _ => v_one (v_cmp (v_idx (v_var rfl) v_cst (idx_str n1l (first_of hc0))) v_cst ?_)) rfl
    show some (_ && true) = _
    rw [Bool.and_true]
    rfl
  by_cases z : (decide (g.length - 1 < n1.length) && decide (c0 = 49)) = true
  · rw [z] at cond
    simp only [Bool.and_eq_true, decide_eq_true_eq] at z
    have e : n1.length = g.length := by omega
    have e2 : (if n1.length > g.length - 1 ∧ n1[0]? = some 49 then xorS n1 g else n1) = xorS n1 g := if_pos ⟨z.1, by rw [hc0, z.2]⟩
    dsimp only
    rw [e2]
    refine (ex_seq ((x_ife_t cond).trans (seq_end (x_asg (d := .str (xorS n1 g)) (v_mth v_cst rfl (v_cmp0 (vi_r1 (v_bi (v_var rfl) (len_str n1l)) (by simpa using n1l)) (comp_pure (fun d => match d with | .int i => .str [48 + (n1.getD i.toNat 0 - 48 + (g.getD i.toNat 0 - 48)) % 2] | d => d) fun d hd => ?_) (by simpa [upto] using n1l)) ?_) (by simp))))).trans (last _ (by rw [xorS_length e]; exact n1l))
    · obtain ⟨i, hi, rfl⟩ := upto_mem hd
      have hi : i < n1.length := by simpa using hi
      have b1 := getD_bit hb1 hi
      have b2 := getD_bit hg.bits (show i < g.length by omega)
      refine ⟨_, rfl, v_bi (v_bin (v_bin (v_bi (v_idx (v_var rfl) (v_var rfl) (idx_str n1l (at_nat hi))) (figure_bit b1)) (v_bi (v_idx (v_var rfl) (v_var rfl) (idx_str (by unfold LIM; omega) (at_nat (show i < g.length by omega)))) (figure_bit b2)) (add_int _ _)) v_cst ((mod_ok (by decide)).trans rfl)) ?_⟩
      exact text_bit (n := (n1.getD i 0 - 48 + (g.getD i 0 - 48)) % 2) (by omega)
    · rw [upto_map, xorS_range e]
      refine (join_ones (fun i : Nat => 48 + (n1.getD i 0 - 48 + (g.getD i 0 - 48)) % 2) (List.range n1.length) (by simpa using n1l) |> fun e => Eq.trans (congrArg (fun l => bi2 .join (.str []) (.lst l)) ?_) e)
      simp only [Int.toNat_natCast]
  · have z' : (decide (g.length - 1 < n1.length) && decide (c0 = 49)) = false := by simpa using z
    rw [z'] at cond
    have e2 : (if n1.length > g.length - 1 ∧ n1[0]? = some 49 then xorS n1 g else n1) = n1 := if_neg (fun q => z (by rw [hc0] at q; simp only [Option.some.injEq] at q; simp only [Bool.and_eq_true, decide_eq_true_eq]; exact ⟨q.1, q.2⟩))
    dsimp only
    rw [e2]
    exact (ex_seq ((x_ife_f cond).trans rfl)).trans (last _ n1l)
theorem law_rest_ok {g b : List Nat} (hg : GOk g) (g9 : g.length ≤ 9) (hb : Bits b) : run P (k + 1) 22 [.str g, .str b] S = .ok (.str (lawRest g b)) S := by
  have g2 := hg.two
  have gl : g.length ≤ LIM := by unfold LIM; omega
  have tk : ∀ i, Bits (b.take i) := fun i c hc => hb c (List.mem_of_mem_take hc)
  obtain ⟨ρ', S', h1, h2⟩ := loopF_inv (tg := .nm 4) (b := ex (callsIn P.B [] (run P k)) P.B restLoop)
    (fun i ρ S' => S' = S ∧ ∃ x, ρ = [some (.str g), some (.str b), some (.int ((g.length - 1 : Nat) : Int)), some (.str (nowS g (b.take i))), x, none]) (signsOf b) 0 [some (.str g), some (.str b), some (.int ((g.length - 1 : Nat) : Int)), some (.str []), none, none] S ⟨rfl, _, rfl⟩ fun i d ρ S' hd ⟨hS, x, hρ⟩ => by
      subst hS hρ
      obtain ⟨c, hc, rfl⟩ := signs_get hd
      rw [Nat.zero_add] at *
      obtain ⟨q1, q2, _⟩ := nowS_ok hg (tk i) (now := []) (fun c hc => by cases hc) (by simp)
      refine ⟨_, _, _, rfl, rest_step hg g9 q1 q2 (hb c (List.mem_of_getElem? hc)), rfl, some (.str [c]), ?_⟩
      have e : nowS g (b.take (i + 1)) = lstep g (nowS g (b.take i)) c := by
        unfold nowS
        exact foldl_take _ _ hc
      rw [e]
  obtain ⟨rfl, x, rfl⟩ := h2
  obtain ⟨q1, q2, _⟩ := nowS_ok hg hb (now := []) (fun c hc => by cases hc) (by simp)
  have eb : b.take (0 + (signsOf b).length) = b := by simp [signsOf]
  rw [eb] at h1
  refine run_rt (np := 2) (n := 6) (lams := []) (body := b__law_rest) rfl rfl ?_
  refine (ex_seq (x_asgT (v_tup (vs_cons (v_bin (v_bi (v_var rfl) (len_str gl)) v_cst (sub_len (by omega))) (vs_cons v_cst vs_nil))) rfl)).trans ?_
  refine (ex_seq (x_for (vi_S (v_var rfl)) h1)).trans ?_
  have q2 : (nowS g b).length ≤ g.length - 1 := q2
  refine ex_seq_rt (x_ret (v_bin (v_bin v_cst (v_bin (v_var rfl) (v_bi (v_var rfl) (len_str (by unfold LIM; omega))) (show some (D.int _) = some (D.int ((g.length - 1 - (nowS g b).length : Nat) : Int)) by congr 2; omega)) (mul_str (by unfold LIM; omega))) (v_var rfl) (add_str (by simp [LIM]; omega))))
theorem law_check_ok {g b : List Nat} (hg : GOk g) (g9 : g.length ≤ 9) (hb : Bits b) (hl : b.length ≤ 1000) : run P (k + 2) 23 [.str g, .str b] S = .ok (.str (chk g b)) S := by
  have g2 := hg.two
  have gl : g.length ≤ LIM := by unfold LIM; omega
  have hz : Bits (b ++ List.replicate (g.length - 1) 48) := Bits.append.mpr ⟨hb, Bits.rep _⟩
  refine run_rt (np := 2) (n := 2) (lams := []) (body := b__law_check) rfl rfl (ex_seq_rt (x_ret ?_))
  refine (c_call (vs_cons (v_var rfl) (vs_cons (v_bin (v_var rfl) (v_bin v_cst (v_bin (v_bi (v_var rfl) (len_str gl)) v_cst (sub_len (by omega))) (mul_str (by unfold LIM; omega))) (add_str (by simp [LIM]; omega))) vs_nil)) (law_rest_ok hg g9 hz)).trans ?_
  rw [lawRest_eq hg hz]
  rfl
end
end RB.K16

set_option linter.all false
set_option maxRecDepth 100000
set_option maxHeartbeats 4000000
set_option autoImplicit false
namespace RB.K16
open RB

theorem cut_to {α : Type} (xs : List α) {v : Int} (h : 0 ≤ v) : cut xs none (some v) = xs.take v.toNat := by
  have e : cutIx xs.length xs.length (some v) = min v.toNat xs.length := if_neg (by omega)
  show (xs.drop 0).take (cutIx xs.length xs.length (some v) - 0) = _
  rw [e, List.drop_zero, Nat.sub_zero, ← List.take_eq_take_min]
theorem cut_from {α : Type} (xs : List α) {v : Int} (h : 0 ≤ v) : cut xs (some v) none = xs.drop v.toNat := by
  have e : cutIx xs.length 0 (some v) = min v.toNat xs.length := if_neg (by omega)
  show (xs.drop (cutIx xs.length 0 (some v))).take (xs.length - cutIx xs.length 0 (some v)) = _
  rw [e, List.take_of_length_le (by simp)]
  by_cases z : v.toNat ≤ xs.length
  · rw [Nat.min_eq_left z]
  · rw [Nat.min_eq_right (by omega), List.drop_of_length_le (Nat.le_refl _), List.drop_of_length_le (by omega)]
theorem slc_to {s : List Nat} {v : Int} (hl : s.length ≤ LIM) (h : 0 ≤ v) : slcD (.str s) none (some v) = some (.str (s.take v.toNat)) := by
  rw [← cut_to s h]
  exact if_pos hl
theorem slc_from {s : List Nat} {v : Int} (hl : s.length ≤ LIM) (h : 0 ≤ v) : slcD (.str s) (some v) none = some (.str (s.drop v.toNat)) := by
  rw [← cut_from s h]
  exact if_pos hl
theorem Bits.take {s : List Nat} (h : Bits s) (n : Nat) : Bits (s.take n) := fun c hc => h c (List.mem_of_mem_take hc)
theorem Bits.drop {s : List Nat} (h : Bits s) (n : Nat) : Bits (s.drop n) := fun c hc => h c (List.mem_of_mem_drop hc)
theorem eq_strs (a b : List Nat) : cmpD .eq (.str a) (.str b) = some (a == b) := rfl
section
variable {k : Nat} {ns : List Int} {S : Store}
theorem law_guard_ok (h : RowOk ns S) : ∃ g S', run P (k + 3) 24 [.ref 0] S = .ok (.str g) S' ∧ guardS g = true ∧ RowOk ns S' := by
  obtain ⟨v, S1, e1, v0, v1, h1⟩ := taken_ok (k := k + 1) (m := 128) h (by decide) (by decide)
  obtain ⟨u, S2, e2, u0, u1, h2⟩ := taken_ok (k := k + 1) (m := 8) h1 (by decide) (by decide)
  obtain ⟨n, rfl⟩ : ∃ n : Nat, v = n := ⟨v.toNat, by omega⟩
  have hb := Bits.take (binS_bits n 7) u.toNat
  have hl : ((binS n 7).take u.toNat).length ≤ 7 := by
    rw [List.length_take, binS_length]
    omega
  refine ⟨49 :: ((binS n 7).take u.toNat ++ [49]), S2, ?_, ?_, h2⟩
  · refine run_rt (np := 1) (n := 1) (lams := []) (body := b__law_guard) rfl rfl (ex_seq_rt (x_ret ?_))
    refine v_bin (v_bin v_cst (v_slc (c_call (vs_cons (c_call (vs_cons (v_var rfl) (vs_cons v_cst vs_nil)) e1) (vs_cons v_cst vs_nil)) (binary_ok (k := k) (d := 7) (by omega))) vp_nil (vp_prt (c_call (vs_cons (v_var rfl) (vs_cons v_cst vs_nil)) e2)) (slc_to (by rw [binS_length]; decide) u0)) (add_str (by simp [LIM]; omega))) v_cst ((add_str (by simp [LIM]; omega)).trans ?_)
    simp
  · unfold guardS
    generalize (binS n 7).take u.toNat = t at hb hl
    have e : (49 :: (t ++ [49]))[(49 :: (t ++ [49])).length - 1]? = some 49 := by
      simp
    rw [e]
    simp only [List.all_cons, List.all_append, all_of_bits hb]
    simp [isBit]
    omega
def oddBits : List D := [.non, .int 0, .str [50], .str [48, 49, 97], .tup [.str [48]], .lst [.str [48]], .bl true, .str [48, 32, 49], .str [32], .str [111]]
def oddGuards : List D := [.non, .str [], .str [49], .str [49, 48], .str [48, 49, 49], .str [49, 48, 48, 48, 48, 48, 48, 48, 48, 49], .int 11, .tup [.str [49], .str [49]], .str [49, 97, 49], .bl true]
/-- what may be told by a refusal and looked at -/
def plainD (d : D) : Bool := typed d && okLen d && fine 50 d && smallD d && decide (bulkD d ≤ 10000)
theorem odd_bits_ok (h : RowOk ns S) : ∃ d S', run P (k + 3) 21 [.ref 0] S = .ok d S' ∧ d ∈ oddBits ∧ RowOk ns S' := by
  obtain ⟨d, S1, e1, hd, h1⟩ := pick_ok (k := k) (ds := oddBits) h (by decide) (by decide)
  exact ⟨d, S1, run_rt (np := 1) (n := 1) (lams := []) (body := b__law_odd_bits) rfl rfl (ex_seq_rt (x_ret (c_call (vs_cons (v_var rfl) (vs_cons (v_lst (vs_cons v_cst (vs_cons v_cst (vs_cons v_cst (vs_cons v_cst (vs_cons (v_tup (vs_cons v_cst vs_nil)) (vs_cons (v_lst (vs_cons v_cst vs_nil)) (vs_cons v_cst (vs_cons v_cst (vs_cons v_cst (vs_cons v_cst vs_nil))))))))))) vs_nil)) e1))), hd, h1⟩
theorem odd_guard_ok (h : RowOk ns S) : ∃ d S', run P (k + 3) 25 [.ref 0] S = .ok d S' ∧ d ∈ oddGuards ∧ RowOk ns S' := by
  obtain ⟨d, S1, e1, hd, h1⟩ := pick_ok (k := k) (ds := oddGuards) h (by decide) (by decide)
  exact ⟨d, S1, run_rt (np := 1) (n := 1) (lams := []) (body := b__law_odd_guard) rfl rfl (ex_seq_rt (x_ret (c_call (vs_cons (v_var rfl) (vs_cons (v_lst (vs_cons v_cst (vs_cons v_cst (vs_cons v_cst (vs_cons v_cst (vs_cons v_cst (vs_cons v_cst (vs_cons v_cst (vs_cons (v_tup (vs_cons v_cst (vs_cons v_cst vs_nil))) (vs_cons v_cst (vs_cons v_cst vs_nil))))))))))) vs_nil)) e1))), hd, h1⟩
theorem odd_bits_are : ∀ d ∈ oddBits, (plainD d && !areBits d) = true := by decide +kernel
theorem odd_guards_are : ∀ d ∈ oddGuards, (plainD d && !isGuard d) = true := by decide +kernel
theorem alike_str {a : List Nat} : run P (k + 1) 17 [.str a, .str a] S = .ok (.bl true) S := by
  refine run_rt (np := 2) (n := 3) (lams := []) (body := b__law_alike) rfl rfl ?_
  refine (ex_seq ((x_ife_f (v_isi (v_var rfl) rfl)).trans rfl)).trans ?_
  refine ex_seq_rt ((x_ife_t (v_or_f (v_cmp (v_var rfl) v_cst rfl) (v_one (v_isi (v_var rfl) rfl)))).trans ?_)
  · exact ex_seq_rt (x_ret (v_and_t (v_cmp (v_var rfl) (v_var rfl) ((eq_strs a a).trans (by simp))) (v_one (v_cmp (v_isi (v_var rfl) rfl) (v_isi (v_var rfl) rfl) rfl))))
theorem alike_two {a b : List Nat} : run P (k + 2) 17 [.tup [.str a, .str b], .tup [.str a, .str b]] S = .ok (.bl true) S := by
  refine run_rt (np := 2) (n := 3) (lams := []) (body := b__law_alike) rfl rfl ?_
  refine ex_seq_rt ((x_ife_t (v_isi (v_var rfl) rfl)).trans ?_)
  refine (ex_seq ((x_ife_f (v_or_f (v_not (v_isi (v_var rfl) rfl)) (v_one (v_cmp (v_isi (v_var rfl) rfl) (v_isi (v_var rfl) rfl) rfl)))).trans rfl)).trans ?_
  refine (ex_seq ((x_ife_f (v_cmp (v_bi (v_var rfl) rfl) (v_bi (v_var rfl) rfl) rfl)).trans rfl)).trans ?_
  refine ex_seq_rt (x_ret (v_cmp (v_cmp1 (es := []) (vi_r1 (v_bi (v_var rfl) rfl) (show (2 : Int).natAbs ≤ LIM by decide)) ?_ (by simp)) (v_lst vs_nil) rfl))
  refine (comp_filter (fun _ => false) id fun d hd => ?_).trans (by simp)
  obtain ⟨i, hi, rfl⟩ := upto_mem hd
  have hi : i < 2 := hi
  refine ⟨_, rfl, v_not (p := true) ?_, fun z => by cases z⟩
  rcases (by omega : i = 0 ∨ i = 1) with rfl | rfl
  · exact c_call (vs_cons (v_idx (v_var rfl) (v_var rfl) rfl) (vs_cons (v_idx (v_var rfl) (v_var rfl) rfl) vs_nil)) alike_str
  · exact c_call (vs_cons (v_idx (v_var rfl) (v_var rfl) rfl) (vs_cons (v_idx (v_var rfl) (v_var rfl) rfl) vs_nil)) alike_str
theorem eq_ints (a b : Int) : cmpD .eq (.int a) (.int b) = some (a == b) := rfl
theorem damaged_ok {b : List Nat} (hb : Bits b) (hl : b.length ≤ 40) (h : RowOk ns S) : ∃ s S', run P (k + 3) 27 [.ref 0, .str b] S = .ok (.str s) S' ∧ Bits s ∧ s.length ≤ 50 ∧ RowOk ns S' := by
  have bl : b.length ≤ LIM := by unfold LIM; omega
  obtain ⟨v, S1, e1, v0, v1, h1⟩ := taken_ok (k := k + 1) (m := 5) h (by decide) (by decide)
  obtain ⟨u, S2, e2, u0, u1, h2⟩ := taken_ok (k := k + 1) (m := (b.length : Int) + 1) h1 (by omega) (by omega)
  obtain ⟨t, S3, e3, t0, t1, h3⟩ := taken_ok (k := k + 1) (m := 16) h2 (by decide) (by decide)
  obtain ⟨n, rfl⟩ : ∃ n : Nat, t = n := ⟨t.toNat, by omega⟩
  have step : ∀ {r : R Fl}, ex (callsIn P.B [] (run P (k + 2))) P.B (.seq (.ife (.or (.cmp .eq (.var 2) (.cst (.int 0))) (.one (.cmp .eq (.var 1) (.cst (.str []))))) (.seq (.ret (.var 1))
  .skip) .skip)
  (.seq (.ife (.cmp .eq (.var 2) (.cst (.int 1))) (.seq (.ret (.slc (.var 1) .nil (.prt (.var 3))))
  .skip) .skip)
  (.seq (.ife (.cmp .eq (.var 2) (.cst (.int 2))) (.seq (.ret (.bin .add (.bin .add (.slc (.var 1) .nil (.prt (.var 3))) (.slc (.var 4) .nil (.prt (.bin .add (.cst (.int 1)) (.bin .mod (.var 3) (.cst (.int 3))))))) (.slc (.var 1) (.prt (.var 3)) .nil)))
  .skip) .skip)
  (.seq (.ife (.cmp .eq (.var 2) (.cst (.int 3))) (.seq (.ret (.bin .add (.slc (.var 1) .nil (.prt (.var 3))) (.slc (.var 1) (.prt (.bin .add (.var 3) (.cst (.int 1)))) .nil)))
  .skip) .skip)
  (.seq (.ret (.call 26 (.cons (.var 1) (.cons (.lst (.cons (.bin .mod (.var 3) (.bi .len (.var 1))) (.cons (.bin .mod (.bin .add (.var 3) (.call 15 (.cons (.var 0) (.cons (.cst (.int 4)) .nil)))) (.bi .len (.var 1))) .nil))) .nil))))
  .skip))))) [some (.ref 0), some (.str b), some (.int v), some (.int u), some (.str (binS n 4))] S3 = r → ex (callsIn P.B [] (run P (k + 2))) P.B b__law_damaged (startEnv 5 [.ref 0, .str b]) S = r := fun {r} e => by
    refine (ex_seq (x_par (vs_cons (c_call (vs_cons (v_var rfl) (vs_cons v_cst vs_nil)) e1) (vs_cons (c_call (vs_cons (v_var rfl) (vs_cons (v_bin (v_bi (v_var rfl) (len_str bl)) v_cst rfl) vs_nil)) e2) vs_nil)) rfl)).trans ?_
    refine (ex_seq (x_asg (c_call (vs_cons (c_call (vs_cons (v_var rfl) (vs_cons v_cst vs_nil)) e3) (vs_cons v_cst vs_nil)) (binary_ok (k := k) (d := 4) (by omega))) (by simp [startEnv]))).trans ?_
    exact e
  have no : ∀ m : Int, v ≠ m → cmpD .eq (.int v) (.int m) = some false := fun m z => (eq_ints v m).trans (congrArg some (beq_eq_false_iff_ne.mpr z))
  by_cases c0 : (decide (v = 0) || decide (b = [])) = true
  · refine ⟨b, S3, ?_, hb, by omega, h3⟩
    refine run_rt (np := 2) (n := 5) (lams := []) (body := b__law_damaged) rfl rfl (step ?_)
    refine ex_seq_rt ((x_ife_t (v_or (p := decide (v = 0)) (r := decide (b = [])) (v_cmp (v_var rfl) v_cst rfl) (fun _ => v_one (v_cmp (v_var rfl) v_cst ?_)) c0)).trans (ex_seq_rt (x_ret (v_var rfl))))
    refine (eq_strs b []).trans (congrArg some ?_)
    cases b <;> rfl
  · have c0' : (decide (v = 0) || decide (b = [])) = false := by simpa using c0
    simp only [Bool.or_eq_true, decide_eq_true_eq, not_or] at c0
    have bpos : 1 ≤ b.length := by
      cases b with
      | nil => exact absurd rfl c0.2
      | cons _ _ => simp
    have f0 : ∀ {t : T} {r : R Fl}, ex (callsIn P.B [] (run P (k + 2))) P.B t [some (.ref 0), some (.str b), some (.int v), some (.int u), some (.str (binS n 4))] S3 = r → ex (callsIn P.B [] (run P (k + 2))) P.B (.seq (.ife (.or (.cmp .eq (.var 2) (.cst (.int 0))) (.one (.cmp .eq (.var 1) (.cst (.str []))))) (.seq (.ret (.var 1))
  .skip) .skip) t) [some (.ref 0), some (.str b), some (.int v), some (.int u), some (.str (binS n 4))] S3 = r := fun {t r} e => by
      refine (ex_seq ((x_ife_f (v_or (p := decide (v = 0)) (r := decide (b = [])) (v_cmp (v_var rfl) v_cst rfl) (fun _ => v_one (v_cmp (v_var rfl) v_cst ?_)) c0')).trans rfl)).trans e
      refine (eq_strs b []).trans (congrArg some ?_)
      cases b <;> rfl
    have t1 : slcD (.str b) none (some u) = some (.str (b.take u.toNat)) := slc_to bl u0
    have lt : (b.take u.toNat).length ≤ 40 := by rw [List.length_take]; omega
    have nx : ∀ {c : I} {s t : T} {r : R Fl} {ρ : Env}, ev (callsIn P.B [] (run P (k + 2))) P.B c ρ S3 = .ok (.bl false) S3 → ex (callsIn P.B [] (run P (k + 2))) P.B t ρ S3 = r → ex (callsIn P.B [] (run P (k + 2))) P.B (.seq (.ife c s .skip) t) ρ S3 = r := fun {c s t r ρ} h1 h2 =>
      (ex_seq ((x_ife_f h1).trans rfl)).trans h2
    by_cases c1 : v = 1
    · subst c1
      refine ⟨b.take u.toNat, S3, ?_, Bits.take hb _, by omega, h3⟩
      refine run_rt (np := 2) (n := 5) (lams := []) (body := b__law_damaged) rfl rfl (step (f0 ?_))
      exact ex_seq_rt ((x_ife_t (v_cmp (v_var rfl) v_cst rfl)).trans (ex_seq_rt (x_ret (v_slc (v_var rfl) vp_nil (vp_prt (v_var rfl)) t1))))
    · by_cases c2 : v = 2
      · subst c2
        have lm : ((binS n 4).take (1 + u % 3).toNat).length ≤ 4 := by rw [List.length_take, binS_length]; omega
        have ld : (b.drop u.toNat).length ≤ 40 := by rw [List.length_drop]; omega
        refine ⟨b.take u.toNat ++ (binS n 4).take (1 + u % 3).toNat ++ b.drop u.toNat, S3, ?_, Bits.append.mpr ⟨Bits.append.mpr ⟨Bits.take hb _, Bits.take (binS_bits n 4) _⟩, Bits.drop hb _⟩, ?_, h3⟩
        · refine run_rt (np := 2) (n := 5) (lams := []) (body := b__law_damaged) rfl rfl (step (f0 (nx (v_cmp (v_var rfl) v_cst rfl) ?_)))
          refine ex_seq_rt ((x_ife_t (v_cmp (v_var rfl) v_cst rfl)).trans (ex_seq_rt (x_ret (v_bin (v_bin (v_slc (v_var rfl) vp_nil (vp_prt (v_var rfl)) t1) (v_slc (v_var rfl) vp_nil (vp_prt (v_bin v_cst (v_bin (v_var rfl) v_cst (mod_ok (by decide))) rfl)) (slc_to (by rw [binS_length]; decide) (by omega))) (add_str ?_)) (v_slc (v_var rfl) (vp_prt (v_var rfl)) vp_nil (slc_from bl u0)) (add_str ?_)))))
          · unfold LIM; omega
          · rw [List.length_append]; unfold LIM; omega
        · rw [List.length_append, List.length_append, List.length_take, List.length_drop]
          omega
      · by_cases c3 : v = 3
        · subst c3
          refine ⟨b.take u.toNat ++ b.drop (u + 1).toNat, S3, ?_, Bits.append.mpr ⟨Bits.take hb _, Bits.drop hb _⟩, ?_, h3⟩
          · refine run_rt (np := 2) (n := 5) (lams := []) (body := b__law_damaged) rfl rfl (step (f0 (nx (v_cmp (v_var rfl) v_cst rfl) (nx (v_cmp (v_var rfl) v_cst rfl) ?_))))
            refine ex_seq_rt ((x_ife_t (v_cmp (v_var rfl) v_cst rfl)).trans (ex_seq_rt (x_ret (v_bin (v_slc (v_var rfl) vp_nil (vp_prt (v_var rfl)) t1) (v_slc (v_var rfl) (vp_prt (v_bin (v_var rfl) v_cst rfl)) vp_nil (slc_from bl (by omega))) (add_str ?_)))))
            rw [List.length_take, List.length_drop]
            unfold LIM
            omega
          · rw [List.length_append, List.length_take, List.length_drop]
            omega
        · obtain ⟨x, S4, e4, x0, x1, h4⟩ := taken_ok (k := k + 1) (m := 4) h3 (by decide) (by decide)
          refine ⟨flipS b [u % b.length, (u + x) % b.length], S4, ?_, flipS_bits hb _, by rw [flipS_length]; omega, h4⟩
          refine run_rt (np := 2) (n := 5) (lams := []) (body := b__law_damaged) rfl rfl (step (f0 (nx (v_cmp (v_var rfl) v_cst (no _ c1)) (nx (v_cmp (v_var rfl) v_cst (no _ c2)) (nx (v_cmp (v_var rfl) v_cst (no _ c3)) ?_)))))
          exact ex_seq_rt (x_ret (c_call (vs_cons (v_var rfl) (vs_cons (v_lst (vs_cons (v_bin (v_var rfl) (v_bi (v_var rfl) (len_str bl)) (mod_ok (by omega))) (vs_cons (v_bin (v_bin (v_var rfl) (c_call (vs_cons (v_var rfl) (vs_cons v_cst vs_nil)) e4) rfl) (v_bi (v_var rfl) (len_str bl)) (mod_ok (by omega))) vs_nil))) vs_nil)) (law_flips_ok (k := k + 1) hb bl fun i => in_lst [u % b.length, (u + x) % b.length] i)))
end
end RB.K16

set_option linter.all false
set_option maxRecDepth 100000
set_option maxHeartbeats 4000000
set_option autoImplicit false
namespace RB.K16
open RB

theorem flip_xor {b : List Nat} (hb : Bits b) (ps : List Int) : flipS b ps = xorS b (markS b.length ps) := by
  rw [xorS_range (by simp [markS])]
  unfold flipS markS
  refine List.map_congr_left fun i hi => ?_
  have hi := List.mem_range.mp hi
  have e : ((List.range b.length).map fun (i : Nat) => if ps.contains (i : Int) then 49 else 48).getD i 0 = if ps.contains (i : Int) then 49 else 48 := by
    rw [List.getD_eq_getElem?_getD, List.getElem?_map, List.getElem?_range hi]
    rfl
  rw [e]
  rcases isBit_iff.mp (getD_bit hb hi) with z | z <;> rw [z] <;> cases ps.contains (i : Int) <;> rfl
theorem rest_flip {g b : List Nat} (hg : GOk g) (hb : Bits b) (ps : List Int) : restN g (flipS b ps) = restN g b ^^^ restN g (markS b.length ps) := by
  rw [flip_xor hb, rest_xor hg (by simp [markS]) hb (markS_bits _ _)]

/-! ### rising places -/
theorem insert_mem {x y : Int} : ∀ {l : List Int}, y ∈ insertI x l → y = x ∨ y ∈ l
  | [], h => by simpa [insertI] using h
  | z :: r, h => by
    unfold insertI at h
    split at h
    · rcases List.mem_cons.mp h with h | h
      · exact .inl h
      · exact .inr h
    · split at h
      · exact .inr h
      · rcases List.mem_cons.mp h with h | h
        · exact .inr (h ▸ List.mem_cons_self)
        · rcases insert_mem h with h | h
          · exact .inl h
          · exact .inr (List.mem_cons_of_mem _ h)
theorem asc_cons {x : Int} {l : List Int} : asc (x :: l) = true ↔ (∀ y, l[0]? = some y → x < y) ∧ asc l = true := by
  cases l with
  | nil => simp [asc]
  | cons y r => simp [asc]
theorem insert_first {x y : Int} {l : List Int} (h : (insertI x l)[0]? = some y) : y = x ∨ l[0]? = some y := by
  cases l with
  | nil => simp [insertI] at h; exact .inl h.symm
  | cons z r =>
    unfold insertI at h
    split at h
    · simp at h; exact .inl h.symm
    · split at h
      · exact .inr h
      · simp at h; exact .inr (by simp [h])
theorem insert_asc {x : Int} : ∀ {l : List Int}, asc l = true → asc (insertI x l) = true
  | [], _ => rfl
  | y :: r, h => by
    have h' := asc_cons.mp h
    unfold insertI
    split
    · rename_i c
      exact asc_cons.mpr ⟨fun z hz => by simp at hz; omega, h⟩
    · split
      · exact h
      · rename_i c1 c2
        refine asc_cons.mpr ⟨fun z hz => ?_, insert_asc h'.2⟩
        rcases insert_first hz with rfl | hz
        · omega
        · exact h'.1 z hz
theorem rising_asc : ∀ l : List Int, asc (risingOf l) = true
  | [] => rfl
  | x :: r => insert_asc (rising_asc r)
theorem rising_mem {y : Int} : ∀ {l : List Int}, y ∈ risingOf l → y ∈ l
  | [], h => by cases h
  | x :: r, h => by
    rcases insert_mem h with h | h
    · exact h ▸ List.mem_cons_self
    · exact List.mem_cons_of_mem _ (rising_mem h)
theorem insert_len (x : Int) : ∀ l : List Int, (insertI x l).length ≤ l.length + 1
  | [] => by simp [insertI]
  | y :: r => by
    have := insert_len x r
    unfold insertI
    split
    · simp
    · split <;> simp <;> omega
theorem rising_len : ∀ l : List Int, (risingOf l).length ≤ l.length
  | [] => by simp [risingOf]
  | x :: r => by
    have := insert_len x (risingOf r)
    have := rising_len r
    simp only [risingOf, List.length_cons]
    omega
theorem ints_of_all {m : Int} : ∀ {es : List D}, (∀ e ∈ es, ∃ v : Int, e = .int v ∧ 0 ≤ v ∧ v < m) → ∃ vs, intsOf es = some vs ∧ vs.length = es.length ∧ ∀ v ∈ vs, 0 ≤ v ∧ v < m
  | [], _ => ⟨[], rfl, rfl, by simp⟩
  | e :: es, h => by
    obtain ⟨v, rfl, h1, h2⟩ := h e List.mem_cons_self
    obtain ⟨vs, h3, h4, h5⟩ := ints_of_all fun x hx => h x (List.mem_cons_of_mem _ hx)
    refine ⟨v :: vs, by simp [intsOf, h3], by simp [h4], fun x hx => ?_⟩
    rcases List.mem_cons.mp hx with rfl | hx
    · exact ⟨h1, h2⟩
    · exact h5 x hx
theorem row_of {m : Int} {ps : List Int} (h : ∀ v ∈ ps, 0 ≤ v ∧ v < m) : inRow m ps = true := List.all_eq_true.mpr fun v hv => by
  have := h v hv
  simp
  omega

/-! ### data that are the same -/
mutual
theorem same_refl : ∀ {n : Nat} {d : D}, fine n d = true → same2 d d = true
  | _, .non, _ => by simp [same2]
  | _, .bl _, _ => by simp [same2]
  | _, .int _, _ => by simp [same2]
  | _, .str _, _ => by simp [same2]
  | n + 1, .lst xs, h => by
    simp only [same2]
    exact sames_refl (n := n) (by simpa only [fine] using h)
  | n + 1, .tup xs, h => by
    simp only [same2]
    exact sames_refl (n := n) (by simpa only [fine] using h)
  | 0, .lst _, h | 0, .tup _, h => by simp [fine] at h
  | 0, .dic _ _, h | 0, .obj _ _, h | 0, .fn _, h | 0, .clo _ _, h | 0, .ref _, h | 0, .scr _, h => by simp [fine] at h
  | _ + 1, .dic _ _, h | _ + 1, .obj _ _, h | _ + 1, .fn _, h | _ + 1, .clo _ _, h | _ + 1, .ref _, h | _ + 1, .scr _, h => by simp [fine] at h
theorem sames_refl : ∀ {n : Nat} {ds : List D}, fines n ds = true → sames ds ds = true
  | _, [], _ => by simp [sames]
  | n, d :: ds, h => by
    simp only [fines, Bool.and_eq_true] at h
    simp only [sames, same_refl h.1, sames_refl h.2, Bool.and_self]
end
mutual
theorem fine_up : ∀ {n m : Nat} {d : D}, n ≤ m → fine n d = true → fine m d = true
  | _, m, .non, _, _ => by cases m <;> rfl
  | _, m, .bl _, _, _ => by cases m <;> rfl
  | _, m, .int _, _, _ => by cases m <;> rfl
  | n, m, .str s, _, h => by
    have h : (s.all fun c => decide (c < 1114112)) = true := by cases n <;> simpa only [fine] using h
    cases m <;> simpa only [fine] using h
  | n + 1, m + 1, .lst xs, hm, h => by
    simp only [fine] at h ⊢
    exact fines_up (by omega) h
  | n + 1, m + 1, .tup xs, hm, h => by
    simp only [fine] at h ⊢
    exact fines_up (by omega) h
  | 0, _, .lst _, _, h | 0, _, .tup _, _, h => by simp [fine] at h
  | n + 1, 0, .lst _, hm, _ | n + 1, 0, .tup _, hm, _ => by omega
  | 0, _, .dic _ _, _, h | 0, _, .obj _ _, _, h | 0, _, .fn _, _, h | 0, _, .clo _ _, _, h | 0, _, .ref _, _, h | 0, _, .scr _, _, h => by simp [fine] at h
  | _ + 1, _, .dic _ _, _, h | _ + 1, _, .obj _ _, _, h | _ + 1, _, .fn _, _, h | _ + 1, _, .clo _ _, _, h | _ + 1, _, .ref _, _, h | _ + 1, _, .scr _, _, h => by simp [fine] at h
theorem fines_up : ∀ {n m : Nat} {ds : List D}, n ≤ m → fines n ds = true → fines m ds = true
  | _, _, [], _, _ => rfl
  | n, m, d :: ds, hm, h => by
    simp only [fines, Bool.and_eq_true] at h ⊢
    exact ⟨fine_up hm h.1, fines_up hm h.2⟩
end
def badW : List Nat := [66, 97, 100, 78, 117, 109, 98, 101, 114]
def bad (d : D) : D := .tup [.str badW, d]
theorem plain_bad {d : D} (h : plainD d = true) : fine 51 (bad d) = true ∧ smallD (bad d) = true ∧ bulkD (bad d) ≤ 10011 := by
  unfold plainD at h
  simp only [Bool.and_eq_true, decide_eq_true_eq] at h
  obtain ⟨⟨⟨⟨h1, h2⟩, h3⟩, h4⟩, h5⟩ := h
  refine ⟨?_, ?_, ?_⟩
  · simp only [bad, fine, fines, h3, Bool.and_true]
    decide
  · simp only [bad, smallD, smallDs, h4, Bool.and_true]
  · simp only [bad, bulkD, bulkDs, badW, List.length_cons, List.length_nil]
    omega
theorem same_bads : ∀ {ds : List D}, (∀ d ∈ ds, plainD d = true) → fines 59 (ds.map bad) = true ∧ smallDs (ds.map bad) = true ∧ bulkDs (ds.map bad) ≤ 10012 * ds.length
  | [], _ => ⟨rfl, rfl, by simp [bulkDs]⟩
  | d :: ds, h => by
    obtain ⟨a1, a2, a3⟩ := plain_bad (h d List.mem_cons_self)
    obtain ⟨b1, b2, b3⟩ := same_bads fun x hx => h x (List.mem_cons_of_mem _ hx)
    refine ⟨?_, ?_, ?_⟩
    · simp only [List.map_cons, fines, b1, Bool.and_true]
      exact fine_up (by omega) a1
    · simp only [List.map_cons, smallDs, a2, b2, Bool.and_self]
    · simp only [List.map_cons, bulkDs, List.length_cons]
      omega
theorem same_lst {ds : List D} (h : ∀ d ∈ ds, plainD d = true) (hl : ds.length ≤ 50) : sameD (.lst (ds.map bad)) (.lst (ds.map bad)) = some true := by
  obtain ⟨a1, a2, a3⟩ := same_bads h
  have f : fine 60 (.lst (ds.map bad)) = true := by simpa only [fine] using a1
  unfold sameD
  refine if_pos ?_
  simp only [Bool.and_eq_true, decide_eq_true_eq]
  exact ⟨⟨⟨⟨rfl, f⟩, by simpa only [smallD] using a2⟩, by simp only [bulkD]; omega⟩, same_refl f⟩
theorem ref_bad (d : D) : P.B.ref 1 [d] = some (bad d) := rfl
section
variable {k : Nat} {S : Store}
theorem same_run {ds : List D} (h : ∀ d ∈ ds, plainD d = true) (hl : ds.length ≤ 50) : run P (k + 1) 18 [.lst (ds.map bad), .lst (ds.map bad)] S = .ok (.bl true) S := run_same rfl (same_lst h hl)
end
end RB.K16

set_option linter.all false
set_option maxRecDepth 100000
set_option maxHeartbeats 4000000
set_option autoImplicit false
namespace RB.K16
open RB

def lamsK : List I := match fns[28]? with
  | some (Fn.code _ _ l _) => l
  | _ => []
def turnT : T := match b_law with
  | .seq _ (.seq (.for _ _ b) _) => b
  | _ => .skip
theorem c_tolds {B : Base} {lams : List I} {P : Prog} {k i l : Nat} {es : I} {ρ : Env} {S S1 : Store} {vs ds : List D} (h : getV ρ i = some (.clo l vs)) (hl : lams[l]? = some es) (ht : toldL ⟨run P k, fun _ _ _ => .no⟩ B es ρ S = .ok ds S1) :
    ev (callsIn B lams (run P k)) B (.tolds i l) ρ S = .ok (.lst ds) S1 := v_tolds h (by
  unfold callsIn
  dsimp only
  rw [hl]
  exact ht)
theorem t_call_ex {B : Base} {P : Prog} {k f c : Nat} {a : I} {ρ : Env} {S S1 S2 : Store} {ds vs : List D} (ha : evs ⟨run P k, fun _ _ _ => .no⟩ B a ρ S = .ok ds S1) (h : run P k f ds S1 = .ex c vs S2) : ev ⟨run P k, fun _ _ _ => .no⟩ B (.call f a) ρ S = .ex c vs S2 := v_call_ex ha h
def wrongs (m : Nat) : List D := [.tup [.int m], .tup [.int 1, .int 0], .tup [.int 0, .int 0], .lst [.int 0], .non, .tup [.int (-1)], .tup [.bl true], .tup [.str [48]], .int 0]
def manys (g : List Nat) : List D := [.int ((g.length : Int) - 2), .int 509, .bl true, .non, .str [57]]
def zeros (n : Nat) : List Nat := List.replicate n 48
section
variable {k : Nat} {S : Store} {ns : List Int}
theorem wrong_plain {m : Nat} (hm : m ≤ 1000) : ∀ d ∈ wrongs m, plainD d = true := fun d hd => by
  simp only [wrongs, List.mem_cons, List.not_mem_nil, or_false] at hd
  rcases hd with rfl | rfl | rfl | rfl | rfl | rfl | rfl | rfl | rfl
  · unfold plainD
    have e : smallD (.tup [.int m]) = true := by
      simp only [smallD, smallDs, Bool.and_true, decide_eq_true_eq]
      omega
    rw [e]
    rfl
  all_goals decide
theorem wrong_no {m : Nat} (hm : 1 ≤ m) : ∀ d ∈ wrongs m, run P (k + 3) 12 [d, .int m] S = .ok (.bl false) S := fun d hd => by
  simp only [wrongs, List.mem_cons, List.not_mem_nil, or_false] at hd
  rcases hd with rfl | rfl | rfl | rfl | rfl | rfl | rfl | rfl | rfl
  · exact (are_places_one rfl (by
      unfold within
      simp only [Bool.and_eq_false_iff, decide_eq_false_iff_not]
      right
      omega))
  · refine (are_places_ints (ns := [1, 0]) (by decide)).trans ?_
    simp [asc]
  · refine (are_places_ints (ns := [0, 0]) (by decide)).trans ?_
    simp [asc]
  · exact are_places_no rfl rfl
  · exact are_places_no rfl rfl
  · exact are_places_one rfl rfl
  · exact are_places_one rfl rfl
  · exact are_places_one rfl rfl
  · exact are_places_no rfl rfl
theorem many_plain {g : List Nat} (hg : g.length ≤ 9) : ∀ d ∈ manys g, plainD d = true := fun d hd => by
  simp only [manys, List.mem_cons, List.not_mem_nil, or_false] at hd
  rcases hd with rfl | rfl | rfl | rfl | rfl
  · unfold plainD
    have e : smallD (.int ((g.length : Int) - 2)) = true := by
      simp only [smallD, decide_eq_true_eq]
      omega
    rw [e]
    rfl
  all_goals decide
theorem many_no {g : List Nat} (h2 : 2 ≤ g.length) : ∀ d ∈ manys g, fitMany g d = false := fun d hd => by
  simp only [manys, List.mem_cons, List.not_mem_nil, or_false] at hd
  unfold fitMany
  rcases hd with rfl | rfl | rfl | rfl | rfl
  · simp only [within, Bool.and_eq_false_iff, decide_eq_false_iff_not]
    left
    omega
  · simp only [within, Bool.and_eq_false_iff, decide_eq_false_iff_not]
    right
    omega
  all_goals rfl
theorem zeros_plain : plainD (.str (zeros 501)) = true := by decide +kernel
theorem zeros_many : fewBits (.str (zeros 501)) = false := by decide +kernel
theorem isn_same (a : Bool) : cmpD .isn (.bl a) (.bl a) = some false := by cases a <;> rfl
theorem plain_typed {d : D} (h : plainD d = true) : typed d = true ∧ okLen d = true := by
  unfold plainD at h
  simp only [Bool.and_eq_true] at h
  exact ⟨h.1.1.1.1, h.1.1.1.2⟩
theorem turn_ok {t x3 x4 x5 x6 x7 x8 x9 x10 x11 x12 x13 x14 : Option D} (h : RowOk ns S) : ∃ S' y3 y4 y5 y6 y7 y8 y9 y10 y11 y12 y13 y14,
    ex (callsIn P.B lamsK (run P (k + 5))) P.B turnT [some (.scr ns), some (.ref 0), t, x3, x4, x5, x6, x7, x8, x9, x10, x11, x12, x13, x14, none, none] S =
      .ok (.nx [some (.scr ns), some (.ref 0), t, y3, y4, y5, y6, y7, y8, y9, y10, y11, y12, y13, y14, none, none]) S' ∧ RowOk ns S' := by
  obtain ⟨g, S1, e1, hg, h1⟩ := law_guard_ok (k := k + 2) h
  obtain ⟨G, g9⟩ := gok_of hg
  have g2 := G.two
  have gl : g.length ≤ LIM := by unfold LIM; omega
  obtain ⟨u, S2, e2, u0, u1, h2⟩ := taken_ok (k := k + 4) (m := 1000000) h1 (by decide) (by decide)
  obtain ⟨v, S3, e3, v0, v1, h3⟩ := taken_ok (k := k + 4) (m := 21) h2 (by decide) (by decide)
  obtain ⟨n, rfl⟩ : ∃ n : Nat, u = n := ⟨u.toNat, by omega⟩
  have e2b := slc_to (s := binS n 20) (by rw [binS_length]; decide) v0
  have hb : Bits ((binS n 20).take v.toNat) := Bits.take (binS_bits n 20) _
  have hbl : ((binS n 20).take v.toNat).length ≤ 20 := by rw [List.length_take, binS_length]; omega
  generalize (binS n 20).take v.toNat = b at e2b hb hbl
  have hcl := chk_length g b
  have hcb : Bits (chk g b) := binS_bits _ _
  have hwb : Bits (b ++ chk g b) := Bits.append.mpr ⟨hb, hcb⟩
  have hwl : (b ++ chk g b).length = b.length + (g.length - 1) := by rw [List.length_append, hcl]
  have hw0 : restN g (b ++ chk g b) = 0 := rest_whole G hb
  have ew : bin .add (.str b) (.str (chk g b)) = some (.str (b ++ chk g b)) := add_str (by rw [hcl]; unfold LIM; omega)
  have eg := guarded_ok (k := k) (S := S3) hg hb (by omega)
  generalize hwd : b ++ chk g b = w at hwb hwl hw0 ew eg
  have wl : w.length ≤ LIM := by unfold LIM; omega
  obtain ⟨s, S4, e4, hs, hsl, h4⟩ := damaged_ok (k := k + 2) hwb (by omega) h3
  have sl : s.length ≤ LIM := by unfold LIM; omega
  obtain ⟨q, S5, e5, q0, q1, h5⟩ := taken_ok (k := k + 4) (m := 5) h4 (by decide) (by decide)
  have hcomp : ∀ ρ : Env, ρ.length = 17 → getV ρ 1 = some (.ref 0) → getV ρ 5 = some (.str w) → ∃ es S6, comp (.nm 15) (compF yesG (ev (callsIn P.B lamsK (run P (k + 5))) P.B (.call 15 (.cons (.var 1) (.cons (.bi .len (.var 5)) .nil))))) (upto 0 q.toNat) (wipeE ρ [15]) S5 = .ok es S6 ∧ RowOk ns S6 ∧ es.length = (upto 0 q.toNat).length ∧ ∀ e ∈ es, ∃ v : Int, e = .int v ∧ 0 ≤ v ∧ v < w.length := fun ρ r0 r1 r2 => by
    refine comp_inv (RowOk ns) (fun e => ∃ v : Int, e = .int v ∧ 0 ≤ v ∧ v < w.length) (upto 0 q.toNat) S5 h5 fun d hd S hS => ?_
    obtain ⟨x, S', f1, f2, f3, f4⟩ := taken_ok (k := k + 4) (m := w.length) hS (by omega) (by omega)
    have g1 : ∀ i, i ≠ 15 → getV ((ρ.set 15 none).set 15 (some d)) i = getV ρ i := fun i hi => by
      unfold getV
      rw [List.getElem?_set_ne (Ne.symm hi), List.getElem?_set_ne (Ne.symm hi)]
    refine ⟨(ρ.set 15 none).set 15 (some d), .int x, S', ?_, ?_, f4, x, rfl, f2, f3⟩
    · exact if_pos (by show 15 < (ρ.set 15 none).length; rw [List.length_set, r0]; decide)
    · simp only [compF, yesG, bind_ok, toBl, if_true]
      rw [c_call (vs_cons (v_var ((g1 1 (by decide)).trans r1)) (vs_cons (v_bi (v_var ((g1 5 (by decide)).trans r2)) (len_str wl)) vs_nil)) f1]
      rfl
  have hdue : (decide (g.length - 1 ≤ s.length) && !(lawRest g s).contains 49) = isGuarded g (.str s) := by
    show _ = (s.all isBit && (decide (g.length - 1 ≤ s.length) && decide (s.length ≤ 508)) && decide (restN g s = 0))
    rw [rest_none G hs, all_of_bits hs, decide_eq_true (show s.length ≤ 508 by omega)]
    by_cases z : restN g s = 0 <;> simp [z]
  have hwG : isGuarded g (.str w) = true := by
    show (w.all isBit && (decide (g.length - 1 ≤ w.length) && decide (w.length ≤ 508)) && decide (restN g w = 0)) = true
    rw [all_of_bits hwb, hw0, decide_eq_true (show w.length ≤ 508 by omega), decide_eq_true (show g.length - 1 ≤ w.length by omega)]
    rfl
  obtain ⟨es, S6, e6, h6, l6, a6⟩ := hcomp [some (.scr ns), some (.ref 0), t, some (.str g), some (.str b), some (.str w), some (.str s), some (.bl (isGuarded g (.str s))), x8, x9, x10, x11, x12, x13, x14, none, none] rfl rfl rfl
  obtain ⟨vs, i1, i2, i3⟩ := ints_of_all a6
  have hl6 : es.length ≤ 5 := by
    rw [l6]
    simp [upto]
    omega
  have hps : ∀ v ∈ risingOf vs, 0 ≤ v ∧ v < (w.length : Int) := fun v hv => i3 v (rising_mem hv)
  have hpl : (risingOf vs).length ≤ 5 := by
    have := rising_len vs
    omega
  have hpa := rising_asc vs
  have esrt : bi .sortset (.lst es) = some (.lst ((risingOf vs).map .int)) := by
    show ((intsOf es).bind fun ns => if ns.length ≤ 60 then some (D.lst ((risingOf ns).map .int)) else none) = _
    rw [i1]
    exact if_pos (by omega)
  generalize risingOf vs = ps at hps hpl hpa esrt
  have hpo : (inRow w.length ps && asc ps) = true := by rw [row_of hps, hpa]; rfl
  have hpL : ps.length ≤ LIM := by unfold LIM; omega
  have hfit : fitMany g (.int w.length) = true := by
    unfold fitMany within
    simp only [Bool.and_eq_true, decide_eq_true_eq]
    omega
  have hfb := flipS_bits hwb ps
  have hfl := flipS_length w ps
  have hfr := rest_flip G hwb ps
  rw [hw0, Nat.zero_xor] at hfr
  have hU : isGuarded g (.str (flipS w ps)) = decide (restN g (markS w.length ps) = 0) := by
    show ((flipS w ps).all isBit && (decide (g.length - 1 ≤ (flipS w ps).length) && decide ((flipS w ps).length ≤ 508)) && decide (restN g (flipS w ps) = 0)) = _
    rw [all_of_bits hfb, hfl, hfr, decide_eq_true (show w.length ≤ 508 by omega), decide_eq_true (show g.length - 1 ≤ w.length by omega)]
    rfl
  have hun : (!(lawRest g (markS w.length ps)).contains 49) = decide (restN g (markS w.length ps) = 0) := by
    rw [rest_none G (markS_bits _ _)]
    by_cases z : restN g (markS w.length ps) = 0 <;> simp [z]
  obtain ⟨wr, S7, e7, m7, h7⟩ := pick_ok (k := k + 3) (ds := wrongs w.length) h6 (show 0 < 9 by decide) (show 9 ≤ 1000 by decide)
  have pw := wrong_plain (m := w.length) (by omega) wr m7
  have nw : ∀ S, run P (k + 4) 12 [wr, .int w.length] S = .ok (.bl false) S := fun S => wrong_no (k := k + 1) (by omega) wr m7
  obtain ⟨od, S8, e8, m8, h8⟩ := odd_guard_ok (k := k + 2) h7
  obtain ⟨st, S9, e9, m9, h9⟩ := odd_bits_ok (k := k + 2) h8
  have po := odd_guards_are od m8
  have pt := odd_bits_are st m9
  simp only [Bool.and_eq_true, Bool.not_eq_true'] at po pt
  obtain ⟨to, lo⟩ := plain_typed po.1
  obtain ⟨ts, ls⟩ := plain_typed pt.1
  obtain ⟨mn, S10, e10, m10, h10⟩ := pick_ok (k := k + 3) (ds := manys g) h9 (show 0 < 5 by decide) (show 5 ≤ 1000 by decide)
  have pm := many_plain g9 mn m10
  have nm := many_no g2 mn m10
  obtain ⟨tm, lm⟩ := plain_typed pm
  have fst : fewBits st = false := fewBits_no pt.2
  have gst : isGuarded g st = false := by
    have := pt.2
    cases st <;> first | rfl | skip
    rename_i z
    have z : z.all isBit = false := this
    simp only [isGuarded, z, Bool.false_and]
  refine ⟨S10, some (.str g), some (.str b), some (.str w), some (.str s), some (.bl (isGuarded g (.str s))), some (.tup (ps.map .int)), some (.bl (decide (restN g (markS w.length ps) = 0))), some wr, some (.clo 1 []), some mn, some od, some st, ?_, h10⟩
  refine (ex_seq (x_asg (c_call (vs_cons (v_var rfl) vs_nil) e1) (by simp))).trans ?_
  refine (ex_seq (x_asg (v_slc (c_call (vs_cons (c_call (vs_cons (v_var rfl) (vs_cons (v_bin v_cst v_cst rfl) vs_nil)) e2) (vs_cons v_cst vs_nil)) (binary_ok (k := k + 3) (d := 20) (by omega))) vp_nil (vp_prt (c_call (vs_cons (v_var rfl) (vs_cons v_cst vs_nil)) e3)) e2b) (by simp))).trans ?_
  refine (ex_seq (x_asg (v_bin (v_var rfl) (c_call (vs_cons (v_var rfl) (vs_cons (v_var rfl) vs_nil)) (law_check_ok (k := k + 3) G g9 hb (by omega))) ew) (by simp))).trans ?_
  refine (ex_seq ((x_ife_f (v_or_f (v_cmp (c_call (vs_cons (v_var rfl) vs_nil) ((is_guard_ok (k := k + 3) rfl (okLen_str gl)).trans (by rw [show isGuard (.str g) = true from hg]))) v_cst rfl) (v_one (v_not (c_call (vs_cons (v_tup (vs_cons (c_call (vs_cons (v_var rfl) (vs_cons (v_var rfl) vs_nil)) (check_bits_ok (k := k + 1) hg hb (by omega))) (vs_cons (c_call (vs_cons (v_var rfl) (vs_cons (v_var rfl) vs_nil)) eg) vs_nil))) (vs_cons (v_tup (vs_cons (c_call (vs_cons (v_var rfl) (vs_cons (v_var rfl) vs_nil)) (law_check_ok (k := k + 3) G g9 hb (by omega))) (vs_cons (v_var rfl) vs_nil))) vs_nil)) (alike_two (k := k + 3))))))).trans rfl)).trans ?_
  refine (ex_seq (x_asg (c_call (vs_cons (v_var rfl) (vs_cons (v_var rfl) vs_nil)) e4) (by simp))).trans ?_
  refine (ex_seq (x_asg (d := .bl (isGuarded g (.str s))) (v_and (p := decide (g.length - 1 ≤ s.length)) (r := !(lawRest g s).contains 49) (v_cmp (v_bi (v_var rfl) (len_str sl)) (v_bin (v_bi (v_var rfl) (len_str gl)) v_cst (sub_len (by omega))) ?c1) (fun _ => v_one (v_cmp v_cst (c_call (vs_cons (v_var rfl) (vs_cons (v_var rfl) vs_nil)) (law_rest_ok (k := k + 4) G g9 hs)) rfl)) hdue) (by simp))).trans ?_
  case c1 =>
    show some (decide (((g.length - 1 : Nat) : Int) ≤ (s.length : Int))) = _
    congr 1
    by_cases z : g.length - 1 ≤ s.length <;> simp [z] <;> omega
  refine (ex_seq ((x_ife_f (v_or_f (v_cmp (c_call (vs_cons (v_var rfl) (vs_cons (v_var rfl) vs_nil)) ((is_guarded_ok (k := k + 1) hg rfl (okLen_str wl)).trans (by rw [hwG]))) v_cst rfl) (v_one (v_cmp (c_call (vs_cons (v_var rfl) (vs_cons (v_var rfl) vs_nil)) (is_guarded_ok (k := k + 1) hg rfl (okLen_str sl))) (v_var rfl) (isn_same _))))).trans rfl)).trans ?_
  refine (ex_seq (x_asg (v_bi (v_srt (v_cmp0 (vi_r1 (c_call (vs_cons (v_var rfl) (vs_cons v_cst vs_nil)) e5) (by unfold LIM; omega)) e6 (by unfold LIM; omega)) esrt) rfl) (by simp))).trans ?_
  refine (ex_seq ((x_ife_f (v_not (c_call (vs_cons (c_call (vs_cons (v_var rfl) (vs_cons (v_var rfl) vs_nil)) (flipped_ok (k := k + 1) hwb wl hpL hpo)) (vs_cons (c_call (vs_cons (v_var rfl) (vs_cons (v_var rfl) vs_nil)) (law_flips_ok (k := k + 4) hwb wl (in_tup ps))) vs_nil)) (alike_str (k := k + 4))))).trans rfl)).trans ?_
  refine (ex_seq (x_asg (d := .bl (decide (restN g (markS w.length ps) = 0))) (v_cmp v_cst (c_call (vs_cons (v_var rfl) (vs_cons (c_call (vs_cons (v_bin v_cst (v_bi (v_var rfl) (len_str wl)) (mul_str wl)) (vs_cons (v_var rfl) vs_nil)) (law_flips_ok (k := k + 4) (Bits.rep _) (by simpa using wl) (in_tup ps))) vs_nil)) ((law_rest_ok (k := k + 4) G g9 (flipS_bits (Bits.rep _) _)).trans (by rw [marks_flip]))) ?c2) (by simp))).trans ?_
  case c2 =>
    rw [← hun]
    rfl
  refine (ex_seq ((x_ife_f (v_or_f (v_cmp (c_call (vs_cons (v_var rfl) (vs_cons (v_bi (v_var rfl) (len_str wl)) (vs_cons (v_var rfl) vs_nil))) (are_unseen_ok (k := k + 1) hg hfit hpL hpo)) (v_var rfl) (isn_same _)) (v_one (v_cmp (c_call (vs_cons (v_var rfl) (vs_cons (c_call (vs_cons (v_var rfl) (vs_cons (v_var rfl) vs_nil)) (flipped_ok (k := k + 1) hwb wl hpL hpo)) vs_nil)) ((is_guarded_ok (k := k + 1) hg rfl (okLen_str (by rw [hfl]; exact wl))).trans (by rw [hU]))) (v_var rfl) (isn_same _))))).trans rfl)).trans ?_
  refine (ex_seq (x_asg (c_call (vs_cons (v_var rfl) (vs_cons (v_lst (vs_cons (v_tup (vs_cons (v_bi (v_var rfl) (len_str wl)) vs_nil)) (vs_cons (v_tup (vs_cons v_cst (vs_cons v_cst vs_nil))) (vs_cons (v_tup (vs_cons v_cst (vs_cons v_cst vs_nil))) (vs_cons (v_lst (vs_cons v_cst vs_nil)) (vs_cons v_cst (vs_cons (v_tup (vs_cons (v_neg v_cst) vs_nil)) (vs_cons (v_tup (vs_cons v_cst vs_nil)) (vs_cons (v_tup (vs_cons v_cst vs_nil)) (vs_cons v_cst vs_nil)))))))))) vs_nil)) e7) (by simp))).trans ?_
  refine (ex_seq ((x_ife_f (v_not (c_call (vs_cons (v_lst (vs_cons (v_told_ex (c_call_ex (vs_cons (v_var rfl) (vs_cons (v_var rfl) vs_nil)) (flipped_ex (k := k + 1) wl (nw _))) (ref_bad wr)) (vs_cons (v_told_ex (c_call_ex (vs_cons (v_var rfl) (vs_cons (v_bi (v_var rfl) (len_str wl)) (vs_cons (v_var rfl) vs_nil))) (are_unseen_ex3 (k := k + 1) hg hfit (nw _))) (ref_bad wr)) vs_nil))) (vs_cons (v_bin (v_lst (vs_cons (v_tup (vs_cons v_cst (vs_cons (v_var rfl) vs_nil))) vs_nil)) v_cst rfl) vs_nil)) (same_run (k := k + 4) (ds := [wr, wr]) (fun d hd => by simp at hd; rw [hd]; exact pw) (by simp))))).trans rfl)).trans ?_
  refine (ex_seq (x_asgT (v_tup (vs_cons (c_call (vs_cons (v_var rfl) vs_nil) e8) (vs_cons (c_call (vs_cons (v_var rfl) vs_nil) e9) vs_nil))) rfl)).trans ?_
  refine (ex_seq (x_lams (by simp))).trans ?_
  refine (ex_seq ((x_ife_f (v_or_f (v_cmp (c_call (vs_cons (v_var rfl) vs_nil) ((is_guard_ok (k := k + 3) to lo).trans (by rw [po.2]))) v_cst rfl) (v_one (v_not (c_call (vs_cons (c_tolds rfl rfl
    (tl_ex (t_call_ex (vs_cons (v_var rfl) (vs_cons (v_var rfl) vs_nil)) (check_bits_ex1 (k := k + 1) to lo po.2)) (ref_bad od)
      (tl_ex (t_call_ex (vs_cons (v_var rfl) (vs_cons (v_var rfl) vs_nil)) (guarded_ex (k := k) (check_bits_ex1 to lo po.2))) (ref_bad od)
        (tl_ex (t_call_ex (vs_cons (v_var rfl) (vs_cons (v_var rfl) vs_nil)) (is_guarded_ex (k := k + 1) to lo po.2)) (ref_bad od)
          (tl_ex (t_call_ex (vs_cons (v_var rfl) (vs_cons v_cst (vs_cons (v_tup vs_nil) vs_nil))) (are_unseen_ex1 (k := k + 1) to lo po.2)) (ref_bad od) tl_nil)))))
    (vs_cons (v_bin (v_lst (vs_cons (v_tup (vs_cons v_cst (vs_cons (v_var rfl) vs_nil))) vs_nil)) v_cst rfl) vs_nil)) (same_run (k := k + 4) (ds := [od, od, od, od]) (fun d hd => by simp at hd; rw [hd]; exact po.1) (by simp))))))).trans rfl)).trans ?_
  refine (ex_seq (x_asg (c_call (vs_cons (v_var rfl) (vs_cons (v_lst (vs_cons (v_bin (v_bi (v_var rfl) (len_str gl)) v_cst rfl) (vs_cons v_cst (vs_cons v_cst (vs_cons v_cst (vs_cons v_cst vs_nil)))))) vs_nil)) e10) (by simp))).trans ?_
  refine (ex_seq (x_lams (by simp))).trans ?_
  refine (seq_end ((x_ife_f (v_or_f (v_cmp (c_call (vs_cons (v_var rfl) (vs_cons (v_var rfl) vs_nil)) ((is_guarded_ok (k := k + 1) hg ts ls).trans (by rw [gst]))) v_cst rfl) (v_one (v_not (c_call (vs_cons (c_tolds rfl rfl
    (tl_ex (t_call_ex (vs_cons (v_var rfl) (vs_cons (v_var rfl) vs_nil)) (check_bits_ex2 (k := k + 1) rfl (okLen_str gl) hg ts ls fst)) (ref_bad st)
      (tl_ex (t_call_ex (vs_cons (v_var rfl) (vs_cons (v_bin v_cst v_cst (mul_str (n := 501) (by decide))) vs_nil)) (guarded_ex (k := k) (check_bits_ex2 rfl (okLen_str gl) hg rfl (okLen_str (by decide)) zeros_many))) (ref_bad (.str (zeros 501)))
        (tl_ex (t_call_ex (vs_cons (v_var rfl) (vs_cons (v_var rfl) (vs_cons (v_tup vs_nil) vs_nil))) (are_unseen_ex2 (k := k + 1) hg tm nm)) (ref_bad mn) tl_nil))))
    (vs_cons (v_lst (vs_cons (v_tup (vs_cons v_cst (vs_cons (v_var rfl) vs_nil))) (vs_cons (v_tup (vs_cons v_cst (vs_cons (v_bin v_cst v_cst (mul_str (n := 501) (by decide))) vs_nil))) (vs_cons (v_tup (vs_cons v_cst (vs_cons (v_var rfl) vs_nil))) vs_nil)))) vs_nil)) (same_run (k := k + 4) (ds := [st, .str (zeros 501), mn]) (fun d hd => by
      simp only [List.mem_cons, List.not_mem_nil, or_false] at hd
      rcases hd with rfl | rfl | rfl
      · exact pt.1
      · exact zeros_plain
      · exact pm) (by simp))))))).trans rfl))
end
end RB.K16

set_option linter.all false
set_option maxRecDepth 100000
set_option maxHeartbeats 4000000
set_option autoImplicit false
namespace RB.K16
open RB

theorem g11 : guardS [49, 49] = true := by decide
theorem g101 : guardS [49, 48, 49] = true := by decide
theorem ones_bits (n : Nat) : Bits (List.replicate n 49) := fun c hc => by rw [(List.mem_replicate.mp hc).2]; rfl
theorem far_no : isGuarded [49, 49] (.str (List.replicate 509 48)) = false := by
  show ((List.replicate 509 48).all isBit && (decide ([49, 49].length - 1 ≤ (List.replicate 509 48).length) && decide ((List.replicate 509 48).length ≤ 508)) && decide (restN [49, 49] (List.replicate 509 48) = 0)) = false
  rw [List.length_replicate, decide_eq_false (show ¬ 509 ≤ 508 by decide), Bool.and_false, Bool.and_false, Bool.false_and]
theorem near_yes : isGuarded [49, 49] (.str (List.replicate 508 48)) = true := by
  show ((List.replicate 508 48).all isBit && (decide ([49, 49].length - 1 ≤ (List.replicate 508 48).length) && decide ((List.replicate 508 48).length ≤ 508)) && decide (restN [49, 49] (List.replicate 508 48) = 0)) = true
  rw [rest_zeros (gok_of g11).1, all_of_bits (Bits.rep 508), List.length_replicate]
  decide
theorem mul_ones {n : Nat} (h : n ≤ LIM) : bin .mul (.str [49]) (.int n) = some (.str (List.replicate n 49)) := mul_str h
theorem law_true (ns : List Int) : ∃ S', run P 20 28 [.scr ns] [] = .ok (.bl true) S' := by
  obtain ⟨ρ', S', h1, h2⟩ := loopF_inv (tg := .nm 2) (b := ex (callsIn P.B lamsK (run P 19)) P.B turnT)
    (fun _ ρ S' => RowOk ns S' ∧ ∃ x2 x3 x4 x5 x6 x7 x8 x9 x10 x11 x12 x13 x14, ρ = [some (.scr ns), some (.ref 0), x2, x3, x4, x5, x6, x7, x8, x9, x10, x11, x12, x13, x14, none, none]) (upto 0 4) 0
    [some (.scr ns), some (.ref 0), none, none, none, none, none, none, none, none, none, none, none, none, none, none, none] (rowS ns 0 8616 0) ⟨⟨0, 8616, 0, rfl, by decide⟩, _, _, _, _, _, _, _, _, _, _, _, _, _, rfl⟩ fun i d ρ S' hd ⟨hS, x2, x3, x4, x5, x6, x7, x8, x9, x10, x11, x12, x13, x14, hρ⟩ => by
      subst hρ
      obtain ⟨S2, y3, y4, y5, y6, y7, y8, y9, y10, y11, y12, y13, y14, e, h⟩ := turn_ok (k := 14) (t := some d) (x3 := x3) (x4 := x4) (x5 := x5) (x6 := x6) (x7 := x7) (x8 := x8) (x9 := x9) (x10 := x10) (x11 := x11) (x12 := x12) (x13 := x13) (x14 := x14) hS
      exact ⟨_, _, S2, rfl, e, h, _, _, _, _, _, _, _, _, _, _, _, _, _, rfl⟩
  obtain ⟨_, x2, x3, x4, x5, x6, x7, x8, x9, x10, x11, x12, x13, x14, rfl⟩ := h2
  refine ⟨S', run_rt (np := 1) (n := 17) (lams := lamsK) (body := b_law) rfl rfl ?_⟩
  refine (ex_seq (x_sto (vs_cons (v_var rfl) (vs_cons v_cst (vs_cons v_cst (vs_cons v_cst vs_nil)))) (by simp [startEnv]))).trans ?_
  refine (ex_seq (x_for (vi_r1 v_cst (by decide)) h1)).trans ?_
  obtain ⟨G, g9⟩ := gok_of g101
  refine ex_seq_rt (x_ret (v_and_t (v_cmp (c_call (vs_cons v_cst (vs_cons (v_bin v_cst v_cst (mul_ones (n := 500) (by decide))) vs_nil)) (check_bits_ok (k := 15) g101 (ones_bits 500) (by rw [List.length_replicate]; decide))) (c_call (vs_cons v_cst (vs_cons (v_bin v_cst v_cst (mul_ones (n := 500) (by decide))) vs_nil)) (law_check_ok (k := 17) G g9 (ones_bits 500) (by rw [List.length_replicate]; decide))) ?_) (v_and_t (v_cmp (c_call (vs_cons v_cst (vs_cons (v_bin v_cst v_cst (mul_str (n := 509) (by decide))) vs_nil)) ((is_guarded_ok (k := 15) g11 rfl (okLen_str (by rw [List.length_replicate]; decide))).trans (by rw [far_no]))) v_cst rfl) (v_one (v_cmp (c_call (vs_cons v_cst (vs_cons (v_bin v_cst v_cst (mul_str (n := 508) (by decide))) vs_nil)) ((is_guarded_ok (k := 15) g11 rfl (okLen_str (by rw [List.length_replicate]; decide))).trans (by rw [near_yes]))) v_cst rfl)))))
  exact (eq_strs _ _).trans (congrArg some (beq_self_eq_true (chk [49, 48, 49] (List.replicate 500 49))))
end RB.K16

set_option Elab.async false
set_option linter.all false
set_option maxRecDepth 100000
set_option maxHeartbeats 0
namespace RB.K16
open PySem PySem.Spec PyProof.Rows L2 He RB
def top (i : Nat) : Stmt := PySem.Challenge.pw_rowbits_k16_whole_guards.main.body.getD i (.Pass ⟨0, 0, 0, 0⟩)
def d_is_whole : DefX := ⟨"is_whole", (defArgs (top 12)).args, (defArgs (top 12)).kw_defaults, defBody (top 12), defScope (top 12), ["value"], [], .code 1 1 [] b_is_whole, false⟩
def d_is_within : DefX := ⟨"is_within", (defArgs (top 13)).args, (defArgs (top 13)).kw_defaults, defBody (top 13), defScope (top 13), ["value", "least", "most"], [], .code 3 3 [] b_is_within, false⟩
def d_are_bits : DefX := ⟨"are_bits", (defArgs (top 14)).args, (defArgs (top 14)).kw_defaults, defBody (top 14), defScope (top 14), ["value", "sign"], [], .code 1 2 [] b_are_bits, false⟩
def d_is_guard : DefX := ⟨"is_guard", (defArgs (top 18)).args, (defArgs (top 18)).kw_defaults, defBody (top 18), defScope (top 18), ["value"], [], .code 1 1 [] b_is_guard, false⟩
def d_need_guard : DefX := ⟨"need_guard", (defArgs (top 19)).args, (defArgs (top 19)).kw_defaults, defBody (top 19), defScope (top 19), ["guard"], [], .code 1 1 [] b_need_guard, false⟩
def d_need_bits : DefX := ⟨"need_bits", (defArgs (top 20)).args, (defArgs (top 20)).kw_defaults, defBody (top 20), defScope (top 20), ["bits"], [], .code 1 1 [] b_need_bits, false⟩
def d_rest_of : DefX := ⟨"rest_of", (defArgs (top 21)).args, (defArgs (top 21)).kw_defaults, defBody (top 21), defScope (top 21), ["guard", "bits", "divisor", "degree", "rest", "bit"], [], .code 2 6 [] b_rest_of, false⟩
def d_int_of : DefX := ⟨"int_of", (defArgs (top 22)).args, (defArgs (top 22)).kw_defaults, defBody (top 22), defScope (top 22), ["bits", "found", "bit"], [], .code 1 3 [] b_int_of, false⟩
def d_check_bits : DefX := ⟨"check_bits", (defArgs (top 23)).args, (defArgs (top 23)).kw_defaults, defBody (top 23), defScope (top 23), ["guard", "bits", "degree", "rest", "place"], [], .code 2 5 [] b_check_bits, false⟩
def d_guarded : DefX := ⟨"guarded", (defArgs (top 24)).args, (defArgs (top 24)).kw_defaults, defBody (top 24), defScope (top 24), ["guard", "bits"], [], .code 2 2 [] b_guarded, false⟩
def d_is_guarded : DefX := ⟨"is_guarded", (defArgs (top 25)).args, (defArgs (top 25)).kw_defaults, defBody (top 25), defScope (top 25), ["guard", "bits"], [], .code 2 2 [] b_is_guarded, false⟩
def d_flipped : DefX := ⟨"flipped", (defArgs (top 26)).args, (defArgs (top 26)).kw_defaults, defBody (top 26), defScope (top 26), ["bits", "places", "place", "bit"], [], .code 2 4 [] b_flipped, false⟩
def d_are_places : DefX := ⟨"are_places", (defArgs (top 27)).args, (defArgs (top 27)).kw_defaults, defBody (top 27), defScope (top 27), ["value", "many", "place", "one", "other"], [], .code 2 5 [] b_are_places, false⟩
def d_are_unseen : DefX := ⟨"are_unseen", (defArgs (top 28)).args, (defArgs (top 28)).kw_defaults, defBody (top 28), defScope (top 28), ["guard", "many", "places", "place"], [], .code 3 4 [] b_are_unseen, false⟩
def d_need_many : DefX := ⟨"need_many", (defArgs (top 29)).args, (defArgs (top 29)).kw_defaults, defBody (top 29), defScope (top 29), ["guard", "many"], [], .code 2 2 [] b_need_many, false⟩
def d__law_taken : DefX := ⟨"_law_taken", (defArgs (top 31)).args, (defArgs (top 31)).kw_defaults, defBody (top 31), defScope (top 31), ["row", "amount", "found", "cell"], [], .code 2 4 [] b__law_taken, false⟩
def d__law_pick : DefX := ⟨"_law_pick", (defArgs (top 32)).args, (defArgs (top 32)).kw_defaults, defBody (top 32), defScope (top 32), ["row", "things"], [], .code 2 2 [] b__law_pick, false⟩
def d__law_alike : DefX := ⟨"_law_alike", (defArgs (top 33)).args, (defArgs (top 33)).kw_defaults, defBody (top 33), defScope (top 33), ["found", "due", "k"], [], .code 2 3 [] b__law_alike, false⟩
def d__law_same : DefX := ⟨"_law_same", (defArgs (top 34)).args, (defArgs (top 34)).kw_defaults, defBody (top 34), defScope (top 34), ["found", "due"], [], .same, false⟩
def d__law_power : DefX := ⟨"_law_power", (defArgs (top 37)).args, (defArgs (top 37)).kw_defaults, defBody (top 37), defScope (top 37), ["base", "times", "found", "k"], [], .code 2 4 [] b__law_power, false⟩
def d__law_binary : DefX := ⟨"_law_binary", (defArgs (top 38)).args, (defArgs (top 38)).kw_defaults, defBody (top 38), defScope (top 38), ["number", "width", "k"], [], .code 2 3 [] b__law_binary, false⟩
def d__law_odd_bits : DefX := ⟨"_law_odd_bits", (defArgs (top 39)).args, (defArgs (top 39)).kw_defaults, defBody (top 39), defScope (top 39), ["row"], [], .code 1 1 [] b__law_odd_bits, false⟩
def d__law_rest : DefX := ⟨"_law_rest", (defArgs (top 40)).args, (defArgs (top 40)).kw_defaults, defBody (top 40), defScope (top 40), ["guard", "bits", "degree", "now", "bit", "k"], [], .code 2 6 [] b__law_rest, false⟩
def d__law_check : DefX := ⟨"_law_check", (defArgs (top 41)).args, (defArgs (top 41)).kw_defaults, defBody (top 41), defScope (top 41), ["guard", "bits"], [], .code 2 2 [] b__law_check, false⟩
def d__law_guard : DefX := ⟨"_law_guard", (defArgs (top 42)).args, (defArgs (top 42)).kw_defaults, defBody (top 42), defScope (top 42), ["row"], [], .code 1 1 [] b__law_guard, false⟩
def d__law_odd_guard : DefX := ⟨"_law_odd_guard", (defArgs (top 43)).args, (defArgs (top 43)).kw_defaults, defBody (top 43), defScope (top 43), ["row"], [], .code 1 1 [] b__law_odd_guard, false⟩
def d__law_flips : DefX := ⟨"_law_flips", (defArgs (top 44)).args, (defArgs (top 44)).kw_defaults, defBody (top 44), defScope (top 44), ["bits", "places", "k"], [], .code 2 3 [] b__law_flips, false⟩
def d__law_damaged : DefX := ⟨"_law_damaged", (defArgs (top 45)).args, (defArgs (top 45)).kw_defaults, defBody (top 45), defScope (top 45), ["row", "bits", "k", "at", "more"], [], .code 2 5 [] b__law_damaged, false⟩
def d_law : DefX := ⟨"law", (defArgs (top 46)).args, (defArgs (top 46)).kw_defaults, defBody (top 46), defScope (top 46), ["script", "row", "turn", "guard", "bits", "whole", "spoiled", "due", "places", "unseen", "wrong", "calls", "many", "odd", "strange", "k", "call"], [11], .code 1 17 [(.cons (.call 8 (.cons (.var 13) (.cons (.var 14) .nil))) (.cons (.call 9 (.cons (.var 13) (.cons (.var 4) .nil))) (.cons (.call 10 (.cons (.var 13) (.cons (.var 4) .nil))) (.cons (.call 13 (.cons (.var 13) (.cons (.cst (.int 9)) (.cons (.tup .nil) .nil)))) .nil)))), (.cons (.call 8 (.cons (.var 3) (.cons (.var 14) .nil))) (.cons (.call 9 (.cons (.var 3) (.cons (.bin .mul (.cst (.str [48])) (.cst (.int 501))) .nil))) (.cons (.call 13 (.cons (.var 3) (.cons (.var 12) (.cons (.tup .nil) .nil)))) .nil)))] b_law, true⟩
def defs : List DefX := [d_is_whole, d_is_within, d_are_bits, d_is_guard, d_need_guard, d_need_bits, d_rest_of, d_int_of, d_check_bits, d_guarded, d_is_guarded, d_flipped, d_are_places, d_are_unseen, d_need_many, d__law_taken, d__law_pick, d__law_alike, d__law_same, d__law_power, d__law_binary, d__law_odd_bits, d__law_rest, d__law_check, d__law_guard, d__law_odd_guard, d__law_flips, d__law_damaged, d_law]
def gl : List (Str × Int) := [("MOST_DEGREE", 8), ("MOST_GUARDED", 500)]
def pTL : List Pos := [⟨142, 16, 142, 22⟩, ⟨142, 24, 142, 28⟩, ⟨142, 24, 142, 30⟩, ⟨142, 15, 142, 31⟩, ⟨142, 8, 142, 31⟩, ⟨143, 11, 143, 19⟩, ⟨144, 15, 144, 27⟩, ⟨144, 28, 144, 29⟩,
  ⟨144, 15, 144, 30⟩, ⟨144, 8, 144, 30⟩, ⟨143, 4, 144, 30⟩, ⟨141, 4, 144, 30⟩]
def pT (n : Nat) : Pos := pTL.getD (n - 1) ⟨0, 0, 0, 0⟩
def pRL : List Pos := [⟨146, 4, 146, 9⟩, ⟨146, 13, 146, 22⟩, ⟨146, 24, 146, 35⟩, ⟨146, 37, 146, 46⟩, ⟨146, 48, 146, 57⟩, ⟨146, 59, 146, 70⟩, ⟨146, 72, 146, 81⟩, ⟨146, 83, 146, 92⟩,
  ⟨146, 94, 146, 104⟩, ⟨146, 106, 146, 119⟩, ⟨146, 12, 146, 120⟩, ⟨146, 4, 146, 120⟩, ⟨147, 4, 147, 9⟩, ⟨147, 13, 147, 23⟩, ⟨147, 24, 147, 25⟩, ⟨147, 27, 147, 34⟩,
  ⟨147, 13, 147, 35⟩, ⟨147, 37, 147, 47⟩, ⟨147, 48, 147, 49⟩, ⟨147, 51, 147, 60⟩, ⟨147, 37, 147, 61⟩, ⟨147, 63, 147, 73⟩, ⟨147, 74, 147, 75⟩, ⟨147, 77, 147, 84⟩,
  ⟨147, 63, 147, 85⟩, ⟨147, 87, 147, 97⟩, ⟨147, 98, 147, 99⟩, ⟨147, 101, 147, 108⟩, ⟨147, 87, 147, 109⟩, ⟨147, 111, 147, 121⟩, ⟨147, 122, 147, 123⟩, ⟨147, 125, 147, 134⟩,
  ⟨147, 111, 147, 135⟩, ⟨147, 137, 147, 147⟩, ⟨147, 148, 147, 149⟩, ⟨147, 151, 147, 158⟩, ⟨147, 137, 147, 159⟩, ⟨147, 161, 147, 171⟩, ⟨147, 172, 147, 173⟩, ⟨147, 175, 147, 182⟩,
  ⟨147, 161, 147, 183⟩, ⟨147, 185, 147, 195⟩, ⟨147, 196, 147, 197⟩, ⟨147, 199, 147, 207⟩, ⟨147, 185, 147, 208⟩, ⟨147, 210, 147, 220⟩, ⟨147, 221, 147, 222⟩, ⟨147, 224, 147, 235⟩,
  ⟨147, 210, 147, 236⟩, ⟨147, 12, 147, 237⟩, ⟨147, 4, 147, 237⟩, ⟨148, 7, 148, 12⟩, ⟨148, 7, 148, 18⟩, ⟨148, 19, 148, 23⟩, ⟨148, 7, 148, 24⟩, ⟨148, 28, 148, 29⟩,
  ⟨148, 7, 148, 29⟩, ⟨148, 37, 148, 47⟩, ⟨148, 48, 148, 49⟩, ⟨148, 51, 148, 61⟩, ⟨148, 37, 148, 62⟩, ⟨148, 33, 148, 62⟩, ⟨148, 7, 148, 62⟩, ⟨149, 16, 149, 23⟩,
  ⟨149, 15, 149, 25⟩, ⟨149, 8, 149, 25⟩, ⟨148, 4, 149, 25⟩, ⟨150, 4, 150, 8⟩, ⟨150, 11, 150, 16⟩, ⟨150, 17, 150, 22⟩, ⟨150, 17, 150, 28⟩, ⟨150, 29, 150, 33⟩,
  ⟨150, 17, 150, 34⟩, ⟨150, 11, 150, 35⟩, ⟨150, 4, 150, 35⟩, ⟨151, 7, 151, 11⟩, ⟨151, 15, 151, 24⟩, ⟨151, 7, 151, 24⟩, ⟨152, 16, 152, 20⟩, ⟨152, 22, 152, 23⟩,
  ⟨152, 22, 152, 28⟩, ⟨152, 30, 152, 31⟩, ⟨152, 30, 152, 37⟩, ⟨152, 15, 152, 38⟩, ⟨152, 8, 152, 38⟩, ⟨151, 4, 152, 38⟩, ⟨153, 7, 153, 11⟩, ⟨153, 15, 153, 26⟩,
  ⟨153, 7, 153, 26⟩, ⟨154, 16, 154, 20⟩, ⟨154, 22, 154, 23⟩, ⟨154, 22, 154, 29⟩, ⟨154, 15, 154, 30⟩, ⟨154, 8, 154, 30⟩, ⟨153, 4, 154, 30⟩, ⟨155, 7, 155, 11⟩,
  ⟨155, 15, 155, 24⟩, ⟨155, 7, 155, 24⟩, ⟨156, 16, 156, 20⟩, ⟨156, 22, 156, 23⟩, ⟨156, 22, 156, 28⟩, ⟨156, 15, 156, 29⟩, ⟨156, 8, 156, 29⟩, ⟨155, 4, 156, 29⟩,
  ⟨157, 7, 157, 11⟩, ⟨157, 16, 157, 25⟩, ⟨157, 27, 157, 36⟩, ⟨157, 15, 157, 37⟩, ⟨157, 7, 157, 37⟩, ⟨158, 16, 158, 20⟩, ⟨158, 22, 158, 23⟩, ⟨158, 22, 158, 28⟩,
  ⟨158, 15, 158, 29⟩, ⟨158, 8, 158, 29⟩, ⟨157, 4, 158, 29⟩, ⟨159, 7, 159, 11⟩, ⟨159, 16, 159, 26⟩, ⟨159, 28, 159, 41⟩, ⟨159, 15, 159, 42⟩, ⟨159, 7, 159, 42⟩,
  ⟨160, 16, 160, 20⟩, ⟨160, 15, 160, 22⟩, ⟨160, 8, 160, 22⟩, ⟨159, 4, 160, 22⟩, ⟨161, 12, 161, 16⟩, ⟨161, 18, 161, 19⟩, ⟨161, 18, 161, 25⟩, ⟨161, 11, 161, 26⟩,
  ⟨161, 4, 161, 26⟩]
def pR (n : Nat) : Pos := pRL.getD (n - 1) ⟨0, 0, 0, 0⟩
def pSL : List Pos := [⟨139, 11, 139, 15⟩, ⟨139, 16, 139, 21⟩, ⟨139, 11, 139, 22⟩, ⟨139, 26, 139, 30⟩, ⟨139, 31, 139, 34⟩, ⟨139, 26, 139, 35⟩, ⟨139, 11, 139, 35⟩, ⟨139, 4, 139, 35⟩]
def pS (n : Nat) : Pos := pSL.getD (n - 1) ⟨0, 0, 0, 0⟩
def hlp : Hlp := ⟨(defArgs (top 35)).args, (defArgs (top 35)).kw_defaults, defScope (top 35), 0, 0, pT, (defArgs (top 36)).args, (defArgs (top 36)).kw_defaults, defScope (top 36), pR⟩
abbrev ORow : PySem.W.OpenRow := PySem.W.OpenLaw.row PySem.Challenge.rw_rowbits_k16_whole_guards
abbrev Prg : Program := (PySem.Challenge.rw_rowbits_k16_whole_guards).prog
abbrev hk : PySem.W.Hook := hookR 4 (faR defs gl) (fnR defs hlp) [lawAt] (exB Prg)
def ob (s : PySem.W.SharedT) : AlR := obsR 4 (faR defs gl) (fnR defs hlp) [lawAt] (exB Prg) (HandSHeadRun.getT s)
theorem ob_eq (s : PySem.W.SharedT) : ob s = hk.obs s.abs := obsR_eq (HandSHeadRun.getT_eq s)
def loose0 : List Str := ["__name__", "RowError", "BadPart", "BadNumber", "Unknown", "BadBits", "BadChange", "BadText", "BadLine", "BadClaim", "NothingDone", "__name__", "is_whole", "is_within", "are_bits", "__name__", "MOST_DEGREE", "MOST_GUARDED", "is_guard", "need_guard"]
def loose1 : List Str := ["need_bits", "rest_of", "int_of", "check_bits", "guarded", "is_guarded", "flipped", "are_places", "are_unseen", "need_many", "__name__", "_law_taken", "_law_pick", "_law_alike", "_law_same", "_law_told", "_law_refusal", "_law_power", "_law_binary", "_law_odd_bits"]
def loose2 : List Str := ["_law_rest", "_law_check", "_law_guard", "_law_odd_guard", "_law_flips", "_law_damaged"]
def loose : List Str := loose0 ++ loose1 ++ loose2
def lawI : Nat := 46
theorem fns_eq : defs.map (·.fn) = fns := rfl
theorem ok_all : ∀ d ∈ defs, okDef (pcOf defs (glbR gl) excR true) d = true := by decide +kernel
theorem ok_hlp : hlp.okB = true := by decide +kernel
theorem ok_mk : ∀ d ∈ defs, d.mkl = true → d.x = "law" := by decide +kernel
theorem ok_su : (Prg.main.scope.names.lookup ("super" : Str)).isSome = false := by decide +kernel
theorem ok_same : ∀ d ∈ defs, d.same = true → SameT pS d := by
  intro d hd hs
  simp only [defs, List.mem_cons, List.not_mem_nil, or_false] at hd
  repeat' (rcases hd with rfl | hd)
  all_goals first
    | exact absurd hs (by decide)
    | (subst hd; exact absurd hs (by decide))
    | exact ⟨rfl, by decide +kernel, by decide +kernel, by decide +kernel, by decide +kernel, by decide +kernel⟩
end RB.K16

set_option Elab.async false
set_option linter.all false
set_option maxRecDepth 100000
set_option maxHeartbeats 0
namespace RB.K16
open PySem PySem.Spec PyProof.Rows L2 He RB
theorem run (w : World) : HandSHeadRun.RunEq ORow (PySem.W.view ORow.prog [46]) hk ob 4000 loose w := by
  intro os
  kernel_rfl
end RB.K16

open PySem PySem.W PySem.Calls PyProof.Rows
theorem k16_glb : ∀ i, RB.K16.B.glb i = (RB.K16.gl[i]?).map fun p => RB.D.int p.2
  | 0 => rfl
  | 1 => rfl
  | _ + 2 => rfl
theorem k16_ref : ∀ k v, RB.K16.B.ref k [v] = some (.tup [.str (RB.refKinds.getD k "").cps.toList, v]) ∨ RB.K16.B.ref k [v] = none
  | 1, _ => .inl rfl
  | 3, _ => .inl rfl
  | 0, _ => .inr rfl
  | 2, _ => .inr rfl
  | _ + 4, _ => .inr rfl
theorem PySem.Challenge.cw_rowbits_k16_whole_guards_holds : PySem.Challenge.rw_rowbits_k16_whole_guards.Holds := by
  w_on; o_law
  refine HandSHeadRun.head_any (r := OpenLaw.row PySem.Challenge.rw_rowbits_k16_whole_guards) (q := view (OpenLaw.row PySem.Challenge.rw_rowbits_k16_whole_guards).prog [46]) (H := RB.K16.hk) (ob := RB.K16.ob) (M := 4000) (loose := RB.K16.loose) (d := HandSHeadRun.topDef (OpenLaw.row PySem.Challenge.rw_rowbits_k16_whole_guards).prog 46) (kwd := []) RB.K16.ob_eq
    (by kernel_rfl) (fun s => by kernel_rfl) RB.K16.run (by kernel_rfl) (by kernel_rfl) (by kernel_rfl) (by rfl) (by first | assumption | decide +kernel) (by decide +kernel) ⟨rfl, rfl, rfl, rfl, rfl, by decide +kernel⟩ ?hw ?hc
  case hw => w_witness2
  case hc =>
    exact RB.law_walk (l := PySem.Challenge.rw_rowbits_k16_whole_guards) (n := 63) (kk := 18) (i := 28) (d := RB.K16.d_law) (ds := RB.K16.defs) (gl := RB.K16.gl) (z := RB.K16.hlp) (B := RB.K16.B) (pS := RB.K16.pS) rfl (by decide) (by kernel_rfl) ⟨rfl, by decide, by decide⟩ (by kernel_rfl) (fun w h Y => Y) RB.K16.ok_hlp k16_glb k16_ref RB.K16.ok_mk RB.K16.ok_su RB.K16.ok_all RB.K16.ok_same rfl rfl rfl rfl (fun ns _ _ => by rw [RB.K16.fns_eq]; exact RB.K16.law_true ns)
