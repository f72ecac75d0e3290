import PyProof.Rows.All
import HandS.ForMost
import HandS.ForExc
import HandS.Deep
import HandS.Zip
import HandS.IsInst
import HandS.Style
import HandS.Wide
import HandS.TryOnly
import HandS.ExcIs
import HandS.TupAny
import HandS.TupLe
import HandS.Flow
import HandS.SortOrd
import HandS.SortRule
import HandS.RevTup
import HandS.SetFor
import HandS.Conv
import HandS.Head0
import HandS.Head1
import HandS.Head2
import HandS.HeadEnd
import HandS.HeadHook1
import HandS.HeadHook2
import HandS.Star
import HandS.SortInts
import HandS.Defaults
import PySem.Challenge.RW_timevote_k52_exchanges
set_option Elab.async false
set_option linter.all false
set_option maxRecDepth 100000
/-! A verified interpreter of the part of the language that the claim uses, sound over the layer by hand; then the law in plain Lean. By an AI agent. -/
section
/-! A small interpreter of the Python that the laws use: values by value, names by slot. Core Lean alone. -/
namespace Py
abbrev Tx := List Nat

inductive D where
  | non | bl (b : Bool) | int (i : Int) | str (s : Tx) | tup (xs : List D) | lst (xs : List D)
  | scr (xs : List D) | fn (f : Nat) | loc (n : Nat) | exc (c : Nat) | clo (l : Nat) (xs : List D)
deriving Inhabited

inductive Cell where
  | lst (xs : List D) | ins (c : Nat) (fs : List (Nat × D)) | dct (kvs : List (Int × D))
abbrev Store := List Cell

/-! ### results -/
inductive Res (α : Type) where
  | ok (a : α) (w : Store) | exc (c : Nat) (w : Store) | stuck
def M (α : Type) := Store → Res α
def ret {α} (a : α) : M α := fun w => .ok a w
def fail {α} : M α := fun _ => .stuck
def rse {α} (c : Nat) : M α := fun w => .exc c w
def bnd {α β} (m : M α) (f : α → M β) : M β := fun w => match m w with
  | .ok a w' => f a w'
  | .exc c w' => .exc c w'
  | .stuck => .stuck
def lif {α} : Option α → M α
  | some a => ret a
  | none => fail
/-- what may not raise -/
def noexc {α} (m : M α) : M α := fun w => match m w with
  | .ok a w' => .ok a w'
  | _ => .stuck

inductive Slot where
  | none | v (d : D) | o (xs : List D) | x (n : Nat)
deriving Inhabited
abbrev Env := List Slot

inductive SRes where
  | nx (r : Env) (w : Store) | rt (d : D) (w : Store) | ex (c : Nat) (r : Env) (w : Store) | stuck
def SM := Store → SRes
def nextS (r : Env) : SM := fun w => .nx r w
def retS (d : D) : SM := fun w => .rt d w
def rseS (c : Nat) (r : Env) : SM := fun w => .ex c r w
def failS : SM := fun _ => .stuck
def bndE {α} (r : Env) (m : M α) (k : α → SM) : SM := fun w => match m w with
  | .ok a w' => k a w'
  | .exc c w' => .ex c r w'
  | .stuck => .stuck
def seqS (m : SM) (k : Env → SM) : SM := fun w => match m w with
  | .nx r w' => k r w'
  | .rt d w' => .rt d w'
  | .ex c r w' => .ex c r w'
  | .stuck => .stuck

@[simp] theorem bnd_ret {α β} (a : α) (f : α → M β) : bnd (ret a) f = f a := rfl
@[simp] theorem bnd_fail {α β} (f : α → M β) : bnd fail f = fail := rfl
@[simp] theorem bnd_rse {α β} (c : Nat) (f : α → M β) : bnd (rse c) f = rse c := rfl
@[simp] theorem bnd_bnd {α β γ} (m : M α) (f : α → M β) (g : β → M γ) : bnd (bnd m f) g = bnd m fun a => bnd (f a) g := by
  funext w
  simp only [bnd]
  cases m w <;> rfl
@[simp] theorem lif_some {α} (a : α) : lif (some a) = ret a := rfl
@[simp] theorem lif_none {α} : lif (none : Option α) = fail := rfl
@[simp] theorem noexc_ret {α} (a : α) : noexc (ret a) = ret a := rfl
@[simp] theorem bndE_ret {α} (r : Env) (a : α) (k : α → SM) : bndE r (ret a) k = k a := rfl
@[simp] theorem bndE_rse {α} (r : Env) (c : Nat) (k : α → SM) : bndE r (rse c) k = rseS c r := rfl
@[simp] theorem bndE_bnd {α β} (r : Env) (m : M α) (f : α → M β) (k : β → SM) : bndE r (bnd m f) k = bndE r m fun a => bndE r (f a) k := by
  funext w
  simp only [bnd, bndE]
  cases m w <;> rfl
@[simp] theorem seqS_next (r : Env) (k : Env → SM) : seqS (nextS r) k = k r := rfl
@[simp] theorem seqS_ret (d : D) (k : Env → SM) : seqS (retS d) k = retS d := rfl
@[simp] theorem seqS_rse (c : Nat) (r : Env) (k : Env → SM) : seqS (rseS c r) k = rseS c r := rfl
@[simp] theorem seqS_bndE {α} (r : Env) (m : M α) (f : α → SM) (k : Env → SM) : seqS (bndE r m f) k = bndE r m fun a => seqS (f a) k := by
  funext w
  simp only [seqS, bndE]
  cases m w <;> rfl
@[simp] theorem seqS_seqS (m : SM) (f k : Env → SM) : seqS (seqS m f) k = seqS m fun r => seqS (f r) k := by
  funext w
  simp only [seqS]
  cases m w <;> rfl
@[simp] theorem seqS_ite {p : Prop} [Decidable p] (a b : SM) (k : Env → SM) : seqS (if p then a else b) k = if p then seqS a k else seqS b k := by
  split <;> rfl

/-! ### values -/
abbrev LIM : Nat := 16777216
mutual
/-- Python's == -/
def eqD : D → D → Bool
  | .non, .non => true
  | .bl a, .bl b => a == b
  | .bl a, .int j => (if a then 1 else 0) == j
  | .int i, .bl b => i == (if b then 1 else 0)
  | .int i, .int j => i == j
  | .str x, .str y => x == y
  | .tup xs, .tup ys => eqL xs ys
  | .lst xs, .lst ys => eqL xs ys
  | .scr xs, .lst ys => eqL xs ys
  | _, _ => false
def eqL : List D → List D → Bool
  | [], [] => true
  | x :: xs, y :: ys => eqD x y && eqL xs ys
  | [], _ :: _ => false
  | _ :: _, [] => false
end
/-- plain data no deeper than n -/
def shp : Nat → D → Bool
  | _, .non => true
  | _, .bl _ => true
  | _, .int _ => true
  | _, .str _ => true
  | n + 1, .tup xs => xs.all (shp n)
  | n + 1, .lst xs => xs.all (shp n)
  | _, _ => false
def shS : D → Bool
  | .scr xs => xs.all (shp 1)
  | d => shp 8 d
def txLt : Tx → Tx → Bool
  | [], [] => false
  | [], _ :: _ => true
  | _ :: _, [] => false
  | x :: xs, y :: ys => if x < y then true else if y < x then false else txLt xs ys
mutual
/-- Python's < -/
def ltD : D → D → Option Bool
  | .int i, .int j => some (decide (i < j))
  | .str x, .str y => some (txLt x y)
  | .tup xs, .tup ys => ltL xs ys
  | _, _ => none
def ltL : List D → List D → Option Bool
  | [], [] => some false
  | x :: xs, y :: ys => if eqD x y then ltL xs ys else ltD x y
  | [], _ :: _ => some true
  | _ :: _, [] => some false
end
def ltB (x y : D) : Bool := (ltD x y).getD false
def cmpAll (xs : List D) : Bool := xs.all fun x => xs.all fun y => (ltD x y).isSome
def insB {α} (lt : α → α → Bool) (x : α) : List α → List α
  | [] => [x]
  | y :: ys => if lt y x then y :: insB lt x ys else x :: y :: ys
def isort {α} (lt : α → α → Bool) : List α → List α
  | [] => []
  | x :: xs => insB lt x (isort lt xs)
def sortD (xs : List D) : Option (List D) := if cmpAll xs && xs.all (shp 8) then some (isort ltB xs) else none
/-- no equal ones: the first of each -/
def dedup : List D → List D
  | [] => []
  | x :: xs => x :: (dedup xs).filter fun y => !eqD x y
/-- the first of the greatest ones (of the least ones by the turned order) -/
def bestB {α} (lt : α → α → Bool) : α → List α → α
  | b, [] => b
  | b, x :: xs => bestB lt (if lt b x then x else b) xs

def ixN (n : Nat) (i : Int) : Option Nat := if 0 ≤ i then (if i < n then some i.toNat else none) else if -(n : Int) ≤ i then some (i + n).toNat else none
def sIx (n d : Nat) : Option Int → Nat
  | none => d
  | some v => if v < 0 then (v + n).toNat else min v.toNat n
def cut {α} (xs : List α) (lo hi : Option Int) : List α := (xs.drop (sIx xs.length 0 lo)).take (sIx xs.length xs.length hi - sIx xs.length 0 lo)

inductive Bop | add | sub | mul | fdiv | mod | pow
deriving DecidableEq
inductive Cop | eq | ne | lt | le | gt | ge | inn | nin
deriving DecidableEq
inductive Ty | int | bool | str | list | tuple
deriving DecidableEq

def small (i : Int) : Bool := decide (-18446744073709551616 < i) && decide (i < 18446744073709551616)
def binD : Bop → D → D → Option D
  | .add, .int i, .int j => some (.int (i + j))
  | .add, .int i, .bl b => some (.int (i + if b then 1 else 0))
  | .add, .str x, .str y => if x.length + y.length ≤ LIM then some (.str (x ++ y)) else none
  | .add, .tup xs, .tup ys => if xs.length + ys.length ≤ LIM then some (.tup (xs ++ ys)) else none
  | .add, .lst xs, .lst ys => if xs.length + ys.length ≤ LIM then some (.lst (xs ++ ys)) else none
  | .sub, .int i, .int j => some (.int (i - j))
  | .mul, .int i, .int j => if small i || small j then some (.int (i * j)) else none
  | .mul, .lst xs, .int k => if 0 ≤ k ∧ k ≤ LIM ∧ xs.length * k.toNat ≤ LIM then some (.lst (List.replicate k.toNat xs).flatten) else none
  | .fdiv, .int i, .int j => if 0 < j ∧ j < 18446744073709551616 then some (.int (i / j)) else none
  | .mod, .int i, .int j => if 0 < j then some (.int (i % j)) else none
  | .pow, .int i, .int j => if 0 ≤ j ∧ j ≤ 1000 ∧ small i = true then some (.int (i ^ j.toNat)) else none
  | _, _, _ => none
def isInfix (x y : Tx) : Bool := (List.range (y.length + 1)).any fun i => (y.drop i).take x.length == x
def inD (x : D) : D → Option Bool
  | .lst ys => if shp 8 x && ys.all (shp 8) then some (ys.any fun y => eqD y x) else none
  | .tup ys => if shp 8 x && ys.all (shp 8) then some (ys.any fun y => eqD y x) else none
  | .str t => match x with
    | .str [c] => some (t.contains c)
    | _ => none
  | _ => none
def cmpD : Cop → D → D → Option Bool
  | .eq, x, y => if shS x && shp 8 y then some (eqD x y) else none
  | .ne, x, y => if shS x && shp 8 y then some (!eqD x y) else none
  | .lt, .int i, .int j => some (decide (i < j))
  | .lt, .str x, .str y => some (txLt x y)
  | .le, .int i, .int j => some (decide (i ≤ j))
  | .gt, .int i, .int j => some (decide (j < i))
  | .gt, .str x, .str y => some (txLt y x)
  | .ge, .int i, .int j => some (decide (j ≤ i))
  | .inn, x, y => inD x y
  | .nin, x, y => (inD x y).map (!·)
  | _, _, _ => none
def isTy : Ty → D → Option Bool
  | .int, .int _ => some true
  | .int, .bl _ => some true
  | .int, .non => some false
  | .int, .str _ => some false
  | .int, .tup _ => some false
  | .int, .lst _ => some false
  | .bool, .bl _ => some true
  | .bool, .int _ => some false
  | .bool, .non => some false
  | .bool, .str _ => some false
  | .bool, .tup _ => some false
  | .bool, .lst _ => some false
  | .str, .str _ => some true
  | .str, .int _ => some false
  | .str, .bl _ => some false
  | .str, .non => some false
  | .str, .tup _ => some false
  | .str, .lst _ => some false
  | .list, .lst _ => some true
  | .list, .int _ => some false
  | .list, .bl _ => some false
  | .list, .non => some false
  | .list, .str _ => some false
  | .list, .tup _ => some false
  | .tuple, .tup _ => some true
  | .tuple, .int _ => some false
  | .tuple, .bl _ => some false
  | .tuple, .non => some false
  | .tuple, .str _ => some false
  | .tuple, .lst _ => some false
  | _, _ => none
def subD : D → D → Option D
  | .scr xs, .int i => (ixN xs.length i).bind fun j => xs[j]?
  | .lst xs, .int i => (ixN xs.length i).bind fun j => xs[j]?
  | .tup xs, .int i => (ixN xs.length i).bind fun j => xs[j]?
  | .str cs, .int i => if cs.length ≤ LIM then ((ixN cs.length i).bind fun j => cs[j]?).map fun c => .str [c] else none
  | _, _ => none
def slcD : D → Option Int → Option Int → Option D
  | .lst xs, lo, hi => some (.lst (cut xs lo hi))
  | .tup xs, lo, hi => some (.tup (cut xs lo hi))
  | .str cs, lo, hi => if cs.length ≤ LIM then some (.str (cut cs lo hi)) else none
  | _, _, _ => none
def toInts : List D → Option (List Int)
  | [] => some []
  | .int i :: r => (toInts r).map (i :: ·)
  | _ => none
def toBls : List D → Option (List Bool)
  | [] => some []
  | .bl b :: r => (toBls r).map (b :: ·)
  | _ => none
def intsF (lo : Int) : Nat → List D
  | 0 => []
  | n + 1 => .int lo :: intsF (lo + 1) n
def rngOk (i j : Int) : Bool := decide (-4611686018427387904 ≤ i) && decide (i < 4611686018427387904) && decide (-4611686018427387904 ≤ j) && decide (j < 4611686018427387904) && decide (j - i ≤ 16777216)
def rngD (i j : Int) : Option (List D) := if rngOk i j then some (intsF i (j - i).toNat) else none
/-- what a for walks -/
def itD : D → Option (List D)
  | .lst xs => some xs
  | .tup xs => some xs
  | .str cs => if cs.length ≤ LIM then some (cs.map fun c => .str [c]) else none
  | _ => none
def zipD : List D → List D → List D
  | x :: xs, y :: ys => .tup [x, y] :: zipD xs ys
  | _, _ => []
def enumD (i : Int) : List D → List D
  | [] => []
  | x :: xs => .tup [.int i, x] :: enumD (i + 1) xs

def zipDD : D → D → Option (List D)
  | .lst xs, .lst ys => if xs.length ≤ LIM then some (zipD xs ys) else none
  | .tup xs, .tup ys => if xs.length ≤ LIM then some (zipD xs ys) else none
  | _, _ => none
def enumDD : D → Option (List D)
  | .lst xs => if xs.length ≤ LIM then some (enumD 0 xs) else none
  | _ => none

inductive Blt | len | abs | max1 | min1 | max2 | min2 | sum | any | all | sorted | sset | tuple | list | lrng1 | lrng2 | int | str | sortedI | max1I | min1I
deriving DecidableEq
def lenD : List D → Option D
  | [.scr xs] => some (.int xs.length)
  | [.lst xs] => some (.int xs.length)
  | [.tup xs] => some (.int xs.length)
  | [.str cs] => if cs.length ≤ LIM then some (.int cs.length) else none
  | _ => none
def absD : List D → Option D
  | [.int i] => some (.int (if i < 0 then -i else i))
  | _ => none
def max2D : List D → Option D
  | [.int i, .int j] => some (.int (if j > i then j else i))
  | _ => none
def min2D : List D → Option D
  | [.int i, .int j] => some (.int (if j < i then j else i))
  | _ => none
def max1D : List D → Option D
  | [.lst (x :: xs)] => if cmpAll (x :: xs) && (x :: xs).all (shp 8) then some (bestB ltB x xs) else none
  | _ => none
def min1D : List D → Option D
  | [.lst (x :: xs)] => if cmpAll (x :: xs) && (x :: xs).all (shp 8) then some (bestB (fun a b => ltB b a) x xs) else none
  | _ => none
def sumD : List D → Option D
  | [.lst xs] => (toInts xs).map fun ns => .int ns.sum
  | _ => none
def anyD : List D → Option D
  | [.lst xs] => (toBls xs).map fun bs => .bl (bs.any id)
  | _ => none
def allD : List D → Option D
  | [.lst xs] => (toBls xs).map fun bs => .bl (bs.all id)
  | _ => none
def sortedD : List D → Option D
  | [.lst xs] => (sortD xs).map .lst
  | [.tup xs] => (sortD xs).map .lst
  | _ => none
def ssetD : List D → Option D
  | [.lst xs] => (sortD (dedup xs)).map .lst
  | _ => none
def tupleD : List D → Option D
  | [.lst xs] => some (.tup xs)
  | [.tup xs] => some (.tup xs)
  | _ => none
def listD : List D → Option D
  | [.lst xs] => some (.lst xs)
  | [.tup xs] => some (.lst xs)
  | _ => none
def lrng1D : List D → Option D
  | [.int j] => (rngD 0 j).map .lst
  | _ => none
def lrng2D : List D → Option D
  | [.int i, .int j] => (rngD i j).map .lst
  | _ => none
def indexD (xs : List D) (x : D) : Option D := if shp 8 x && xs.all (shp 8) then (xs.findIdx? fun y => eqD y x).map fun (i : Nat) => D.int (i : Int) else none
def countD (xs : List D) (x : D) : Option D := if shp 8 x && xs.all (shp 8) then some (.int ((xs.filter fun y => eqD y x).length)) else none
def sortInts (ns : List Int) : List Int := ns.mergeSort (fun a b => decide (a ≤ b))
def sortedID : List D → Option D
  | [.lst xs] => (toInts xs).map fun ns => .lst ((sortInts ns).map .int)
  | _ => none
def max1ID : List D → Option D
  | [.lst xs] => (toInts xs).bind fun ns => ns.max?.map .int
  | _ => none
def min1ID : List D → Option D
  | [.lst xs] => (toInts xs).bind fun ns => ns.min?.map .int
  | _ => none
def bltD : Blt → List D → Option D
  | .len => lenD | .abs => absD | .max1 => max1D | .min1 => min1D | .max2 => max2D | .min2 => min2D | .sum => sumD | .any => anyD | .all => allD
  | .sorted => sortedD | .sset => ssetD | .tuple => tupleD | .list => listD | .lrng1 => lrng1D | .lrng2 => lrng2D | .sortedI => sortedID | .max1I => max1ID | .min1I => min1ID
  | _ => fun _ => none

/-! ### the syntax -/
inductive Tgt
  | nm (i : Nat)
  | tp (is : List Nat)
mutual
inductive E where
  | cst (d : D)
  | var (i : Nat)
  | peek (i : Nat)
  | glb (x : Nat)
  | fnv (f : Nat)
  | bin (o : Bop) (a b : E)
  | neg (a : E)
  | not (a : E)
  | and (a b : E)
  | or (a b : E)
  | cmp (o : Cop) (a b : E)
  | cmp2 (o o' : Cop) (a b c : E)
  | cmp3 (o o' o'' : Cop) (a b c d : E)
  | isC (neg : Bool) (a : E) (d : D)
  | ite (c a b : E)
  | call (f : Nat) (es : Es)
  | calv (f : E) (es : Es)
  | blt (b : Blt) (es : Es)
  | idx (a e : E)
  | cnt (a e : E)
  | isi (a : E) (t : Ty)
  | ise (i : Nat) (k : Nat)
  | sub (a i : E)
  | slL (a lo : E)
  | slH (a hi : E)
  | slB (a lo hi : E)
  | rev (a : E)
  | tup (es : Es)
  | lst (es : Es)
  | cmp0 (t : Tgt) (it : It) (e : E)
  | cmpi (t : Tgt) (it : It) (c e : E)
inductive Es where
  | nil
  | cons (e : E) (r : Es)
inductive It where
  | seq (a : E)
  | rng1 (a : E)
  | rng2 (a b : E)
  | zip (a b : E)
  | enum (a : E)
end
mutual
inductive S where
  | asg (i : Nat) (e : E)
  | own (i : Nat) (e : E)
  | par (ts : List (Bool × Nat)) (es : Es)
  | unp (is : List Nat) (e : E)
  | app (i : Nat) (e : E)
  | ext (i : Nat) (e : E)
  | popA (j i : Nat)
  | popS (j i : Nat) (k : Int)
  | setL (i : Nat) (k : Int) (e : E)
  | frz (i : Nat)
  | exp (e : E)
  | ifs (c : E) (t f : Ss)
  | fo (t : Tgt) (it : It) (b : Ss)
  | whl (n : Nat) (c : E) (b : Ss)
  | retE (e : E)
  | retO (i : Nat)
  | retN
  | rse (c : Nat)
  | trx (b : Ss) (x : Option Nat) (s : Ss)
inductive Ss where
  | nil
  | cons (s : S) (r : Ss)
end

/-! ### the interpreter -/
def Env.get (r : Env) (i : Nat) : Slot := r.getD i .none
def Slot.val : Slot → Option D
  | .v d => some d
  | _ => Option.none
def Slot.own : Slot → Option (List D)
  | .o xs => some xs
  | _ => Option.none
def Slot.exc : Slot → Option Nat
  | .x n => some n
  | _ => Option.none
def setAll (r : Env) : List Nat → List D → Option Env
  | [], [] => some r
  | i :: is, d :: ds => setAll (r.set i (.v d)) is ds
  | _, _ => none
def unpD : D → Option (List D)
  | .tup xs => some xs
  | .lst xs => some xs
  | _ => none
def lstD : D → Option (List D)
  | .lst xs => some xs
  | _ => none
def bindT (r : Env) : Tgt → D → Option Env
  | .nm i, d => some (r.set i (.v d))
  | .tp is, .tup xs => setAll r is xs
  | .tp is, _ => none
def wipeT (r : Env) : Tgt → Env
  | .nm i => r.set i .none
  | .tp is => is.foldr (fun i r => r.set i .none) r
def tru : D → Option Bool
  | .bl b => some b
  | _ => none
def asInt : D → Option Int
  | .int i => some i
  | _ => none
def slotOf (own : Bool) (d : D) : Option Slot := if own then (match d with | .lst xs => some (.o xs) | _ => none) else some (.v d)
def setPar (r : Env) : List (Bool × Nat) → List D → Option Env
  | [], [] => some r
  | (b, i) :: ts, d :: ds => (slotOf b d).bind fun s => setPar (r.set i s) ts ds
  | _, _ => none

/-- a comprehension's turns -/
def compM (xs : List D) (step : D → M (Option D)) : M (List D) := match xs with
  | [] => ret []
  | x :: r => bnd (step x) fun o => bnd (compM r step) fun ys => ret (match o with | some y => y :: ys | none => ys)
/-- a for's turns -/
def forS (xs : List D) (step : Env → D → SM) (r : Env) : SM := match xs with
  | [] => nextS r
  | x :: xs => seqS (step r x) (forS xs step)
def whileS : Nat → (Env → M D) → (Env → SM) → Env → SM
  | 0, _, _, _ => failS
  | n + 1, c, b, r => bndE r (bnd (c r) fun d => lif (tru d)) fun k => if k = true then seqS (b r) (whileS n c b) else nextS r

/-- an except suite raises nothing -/
def calmS (m : SM) : SM := fun w => match m w with
  | .ex _ _ _ => .stuck
  | res => res
def catchS (mb : Env → SM) (k : Nat → Env → SM) (r : Env) : SM := fun w => match mb r w with
  | .ex c r' w' => calmS (k c r') w'
  | res => res
def fnD : D → Option Nat
  | .fn f => some f
  | _ => none
def isCD (n : Bool) : D → D → Option D
  | .non, .non => some (.bl (!n))
  | .non, .exc _ => none
  | .non, _ => some (.bl n)
  | .bl b, .bl c => some (.bl (if n then !(b == c) else b == c))
  | _, _ => none
structure Lk where
  /-- the defs -/
  φ : Nat → List D → M D
  /-- the constants of the top -/
  g : Nat → D
  /-- of what classes an exception is one -/
  sub : Nat → Nat → Bool

mutual
def ev (L : Lk) : E → Env → M D
  | .cst d, _ => ret d
  | .var i, r => lif (r.get i).val
  | .peek i, r => lif ((r.get i).own.map .lst)
  | .glb x, _ => ret (L.g x)
  | .fnv f, _ => ret (.fn f)
  | .bin o a b, r => bnd (ev L a r) fun x => bnd (ev L b r) fun y => lif (binD o x y)
  | .neg a, r => bnd (ev L a r) fun x => lif ((asInt x).map fun i => .int (-i))
  | .not a, r => bnd (ev L a r) fun x => lif ((tru x).map fun b => .bl (!b))
  | .and a b, r => bnd (ev L a r) fun x => bnd (lif (tru x)) fun k => if k = true then ev L b r else ret (.bl false)
  | .or a b, r => bnd (ev L a r) fun x => bnd (lif (tru x)) fun k => if k = true then ret (.bl true) else ev L b r
  | .cmp o a b, r => bnd (ev L a r) fun x => bnd (ev L b r) fun y => lif ((cmpD o x y).map .bl)
  | .cmp2 o o' a b c, r => bnd (ev L a r) fun x => bnd (ev L b r) fun y => bnd (lif (cmpD o x y)) fun k => if k = true then bnd (ev L c r) fun z => lif ((cmpD o' y z).map .bl) else ret (.bl false)
  | .cmp3 o o' o'' a b c d, r => bnd (ev L a r) fun x => bnd (ev L b r) fun y => bnd (lif (cmpD o x y)) fun k => if k = true then
      bnd (ev L c r) fun z => bnd (lif (cmpD o' y z)) fun k => if k = true then bnd (ev L d r) fun u => lif ((cmpD o'' z u).map .bl) else ret (.bl false)
      else ret (.bl false)
  | .isC n a d, r => bnd (ev L a r) fun x => lif (isCD n d x)
  | .ite c a b, r => bnd (ev L c r) fun x => bnd (lif (tru x)) fun k => if k = true then ev L a r else ev L b r
  | .call f es, r => bnd (evs L es r) fun xs => L.φ f xs
  | .calv f es, r => bnd (ev L f r) fun x => bnd (lif (fnD x)) fun f => bnd (evs L es r) fun xs => L.φ f xs
  | .blt b es, r => bnd (evs L es r) fun xs => lif (bltD b xs)
  | .idx a e, r => bnd (ev L a r) fun x => bnd (lif (lstD x)) fun xs => bnd (ev L e r) fun y => lif (indexD xs y)
  | .cnt a e, r => bnd (ev L a r) fun x => bnd (lif (lstD x)) fun xs => bnd (ev L e r) fun y => lif (countD xs y)
  | .isi a t, r => bnd (ev L a r) fun x => lif ((isTy t x).map .bl)
  | .ise i c, r => lif ((r.get i).exc.map fun n => .bl (L.sub n c))
  | .sub a i, r => bnd (ev L a r) fun x => bnd (ev L i r) fun y => lif (subD x y)
  | .slL a lo, r => bnd (ev L a r) fun x => bnd (ev L lo r) fun y => lif ((asInt y).bind fun i => slcD x (some i) none)
  | .slH a hi, r => bnd (ev L a r) fun x => bnd (ev L hi r) fun y => lif ((asInt y).bind fun i => slcD x none (some i))
  | .slB a lo hi, r => bnd (ev L a r) fun x => bnd (ev L lo r) fun y => bnd (lif (asInt y)) fun i => bnd (ev L hi r) fun z => lif ((asInt z).bind fun j => slcD x (some i) (some j))
  | .rev a, r => bnd (ev L a r) fun x => lif (match x with | .lst xs => some (.lst xs.reverse) | .tup xs => some (.tup xs.reverse) | _ => none)
  | .tup es, r => bnd (evs L es r) fun xs => ret (.tup xs)
  | .lst es, r => bnd (evs L es r) fun xs => ret (.lst xs)
  | .cmp0 t it e, r => bnd (evi L it r) fun xs => bnd (compM xs fun x => noexc (bnd (lif (bindT (wipeT r t) t x)) fun r' => bnd (ev L e r') fun y => ret (some y))) fun ys => ret (.lst ys)
  | .cmpi t it c e, r => bnd (evi L it r) fun xs => bnd (compM xs fun x => noexc (bnd (lif (bindT (wipeT r t) t x)) fun r' => bnd (ev L c r') fun k => bnd (lif (tru k)) fun k =>
      if k = true then bnd (ev L e r') fun y => ret (some y) else ret none)) fun ys => ret (.lst ys)
def evs (L : Lk) : Es → Env → M (List D)
  | .nil, _ => ret []
  | .cons e r, σ => bnd (ev L e σ) fun x => bnd (evs L r σ) fun xs => ret (x :: xs)
def evi (L : Lk) : It → Env → M (List D)
  | .seq a, r => bnd (ev L a r) fun x => lif (itD x)
  | .rng1 a, r => bnd (ev L a r) fun x => lif ((asInt x).bind fun j => rngD 0 j)
  | .rng2 a b, r => bnd (ev L a r) fun x => bnd (ev L b r) fun y => lif ((asInt x).bind fun i => (asInt y).bind fun j => rngD i j)
  | .zip a b, r => bnd (ev L a r) fun x => bnd (ev L b r) fun y => lif (zipDD x y)
  | .enum a, r => bnd (ev L a r) fun x => lif (enumDD x)
end

mutual
def evS (L : Lk) : S → Env → SM
  | .asg i e, r => bndE r (ev L e r) fun d => nextS (r.set i (.v d))
  | .own i e, r => bndE r (bnd (ev L e r) fun d => lif (slotOf true d)) fun s => nextS (r.set i s)
  | .par ts es, r => bndE r (bnd (evs L es r) fun ds => lif (setPar r ts ds)) nextS
  | .unp is e, r => bndE r (bnd (ev L e r) fun d => lif ((unpD d).bind fun ds => setAll r is ds)) nextS
  | .app i e, r => bndE r (bnd (lif (r.get i).own) fun xs => bnd (ev L e r) fun d => lif (if xs.length < LIM then some (r.set i (.o (xs ++ [d]))) else none)) nextS
  | .ext i e, r => bndE r (bnd (lif (r.get i).own) fun xs => bnd (ev L e r) fun d => lif ((lstD d).bind fun ys => if xs.length + ys.length ≤ LIM then some (r.set i (.o (xs ++ ys))) else none)) nextS
  | .popA j i, r => bndE r (lif ((r.get i).own.bind fun xs => xs.getLast?.map fun d => (r.set i (.o xs.dropLast)).set j (.v d))) nextS
  | .popS j i k, r => bndE r (lif ((r.get i).own.bind fun xs => xs.getLast?.bind fun d => (subD d (.int k)).map fun e => (r.set i (.o xs.dropLast)).set j (.v e))) nextS
  | .setL i k e, r => bndE r (bnd (ev L e r) fun d => lif ((r.get i).own.bind fun xs => (ixN xs.length k).map fun j => r.set i (.o (xs.set j d)))) nextS
  | .frz i, r => bndE r (lif ((r.get i).own.map fun xs => r.set i (.v (.lst xs)))) nextS
  | .exp e, r => bndE r (ev L e r) fun _ => nextS r
  | .ifs c t f, r => bndE r (bnd (ev L c r) fun x => lif (tru x)) fun k => if k = true then evSs L t r else evSs L f r
  | .fo t it b, r => bndE r (evi L it r) fun xs => forS xs (fun r x => bndE r (lif (bindT r t x)) fun r => evSs L b r) r
  | .whl n c b, r => whileS n (fun r => ev L c r) (fun r => evSs L b r) r
  | .retE e, r => bndE r (ev L e r) retS
  | .retO i, r => bndE r (lif (r.get i).own) fun xs => retS (.lst xs)
  | .retN, _ => retS .non
  | .rse c, r => rseS c r
  | .trx b x s, r => catchS (evSs L b) (fun c r' => match x with
      | some i => seqS (evSs L s (r'.set i (.x c))) (fun r => nextS (r.set i .none))
      | none => evSs L s r') r
def evSs (L : Lk) : Ss → Env → SM
  | .nil, r => nextS r
  | .cons s r, σ => seqS (evS L s σ) fun σ' => evSs L r σ'
end

/-- a def: how many parameters, how many names, its body -/
structure Fd where
  np : Nat
  nn : Nat
  body : Ss
def Fd.env (f : Fd) (ds : List D) : Env := ds.map .v ++ List.replicate (f.nn - ds.length) .none
def outM (m : SM) : M D := fun w => match m w with
  | .nx _ w => .ok .non w
  | .rt d w => .ok d w
  | .ex c _ w => .exc c w
  | .stuck => .stuck
def runF (L : Lk) (f : Fd) (ds : List D) : M D := if ds.length = f.np then outM (evSs L f.body (f.env ds)) else fail

structure Prog where
  defs : List Fd
  g : Nat → D
  sub : Nat → Nat → Bool
def phi (P : Prog) : Nat → Nat → List D → M D
  | 0, _, _ => fail
  | k + 1, f, ds => match P.defs[f]? with
    | some fd => runF ⟨phi P k, P.g, P.sub⟩ fd ds
    | none => fail
end Py

end
section
namespace PyS
open PySem PySem.Spec PyProof.Rows L2

def WrL (K : PySem.W.Frag) (a : Addr) (xs : List V) : Prop :=
  ∃ (o : Obj) (its : Array Value) (n : Nat), K.lookup a = some o ∧ o.cls = .type "list" ∧ o.dict = none ∧ o.data = .seq its n ∧ its.size ≤ sizeLine ∧ Vals xs its.toList

section
variable (K : PySem.W.Frag) (fA : Nat → Option Addr) (H : Hp) (Z : Addr → Prop) (η : List Addr)
mutual
/-- a value and the data it is: lists stand where nothing is written any more (Z) -/
inductive Rep : V → Py.D → Prop
  | non : Rep .non .non
  | bl (b : Bool) : Rep (.bl b) (.bl b)
  | int (i : Int) : Rep (.int i) (.int i)
  | str (cs : List Nat) : (cs.all fun c => decide (c < 1114112)) = true → Rep (.str ⟨cs.toArray⟩) (.str cs)
  | tup {a : Addr} {vs : List V} {ds : List Py.D} : H a = some (.tup vs) → RepL vs ds → Rep (.ref a) (.tup ds)
  | lst {a : Addr} {vs : List V} {ds : List Py.D} : Z a → H a = some (.lst vs) → RepL vs ds → Rep (.ref a) (.lst ds)
  | scr {a : Addr} {vs : List V} {ds : List Py.D} : (Z a ∧ Rd H a (.lst vs)) ∨ WrL K a vs → RepL vs ds → Rep (.ref a) (.scr ds)
  | fn {a : Addr} {f : Nat} : fA f = some a → Rep (.ref a) (.fn f)
  | loc {a : Addr} {n : Nat} : η[n]? = some a → Rep (.ref a) (.loc n)
inductive RepL : List V → List Py.D → Prop
  | nil : RepL [] []
  | cons {v : V} {vs : List V} {d : Py.D} {ds : List Py.D} : Rep v d → RepL vs ds → RepL (v :: vs) (d :: ds)
end
end

section
variable {K : PySem.W.Frag} {fA : Nat → Option Addr} {H H' : Hp} {Z Z' : Addr → Prop} {η η' : List Addr}
mutual
theorem Rep.mono (h1 : ∀ b o, H b = some o → (Z b ∨ ∃ xs, o = .tup xs) → H' b = some o) (h2 : ∀ b, Z b → Z' b) (h3 : ∃ l, η' = η ++ l) {v : V} : ∀ {d : Py.D}, Rep K fA H Z η v d → Rep K fA H' Z' η' v d
  | _, .non => .non
  | _, .bl b => .bl b
  | _, .int i => .int i
  | _, .str cs h => .str cs h
  | _, .tup h r => .tup (h1 _ _ h (.inr ⟨_, rfl⟩)) (RepL.mono h1 h2 h3 r)
  | _, .lst z h r => .lst (h2 _ z) (h1 _ _ h (.inl z)) (RepL.mono h1 h2 h3 r)
  | _, .scr h r => .scr (by
      rcases h with ⟨z, h | ⟨o, h⟩⟩ | h
      · exact .inl ⟨h2 _ z, .inl (h1 _ _ h (.inl z))⟩
      · exact .inl ⟨h2 _ z, .inr ⟨o, h1 _ _ h (.inl z)⟩⟩
      · exact .inr h) (RepL.mono h1 h2 h3 r)
  | _, .fn h => .fn h
  | _, .loc h => .loc (by
      obtain ⟨l, rfl⟩ := h3
      rw [List.getElem?_append_left]
      · exact h
      · exact (List.getElem?_eq_some_iff.mp h).1)
theorem RepL.mono (h1 : ∀ b o, H b = some o → (Z b ∨ ∃ xs, o = .tup xs) → H' b = some o) (h2 : ∀ b, Z b → Z' b) (h3 : ∃ l, η' = η ++ l) : ∀ {vs : List V} {ds : List Py.D}, RepL K fA H Z η vs ds → RepL K fA H' Z' η' vs ds
  | _, _, .nil => .nil
  | _, _, .cons r t => .cons (Rep.mono h1 h2 h3 r) (RepL.mono h1 h2 h3 t)
end
theorem RepL.length : ∀ {vs : List V} {ds : List Py.D}, RepL K fA H Z η vs ds → vs.length = ds.length
  | _, _, .nil => rfl
  | _, _, .cons _ t => by rw [List.length_cons, List.length_cons, t.length]
theorem RepL.append : ∀ {vs us : List V} {ds es : List Py.D}, RepL K fA H Z η vs ds → RepL K fA H Z η us es → RepL K fA H Z η (vs ++ us) (ds ++ es)
  | _, _, _, _, .nil, s => s
  | _, _, _, _, .cons r t, s => .cons r (t.append s)
theorem RepL.get : ∀ {vs : List V} {ds : List Py.D} {i : Nat} {d : Py.D}, RepL K fA H Z η vs ds → ds[i]? = some d → ∃ v, vs[i]? = some v ∧ Rep K fA H Z η v d
  | _, _, _, _, .nil, e => by simp at e
  | _, _, 0, _, .cons r _, e => by simp at e; subst e; exact ⟨_, rfl, r⟩
  | _, _, i + 1, d, .cons _ t, e => by
    obtain ⟨v, h1, h2⟩ := RepL.get (i := i) (d := d) t (by simpa using e)
    exact ⟨v, by simpa using h1, h2⟩
theorem RepL.getV : ∀ {vs : List V} {ds : List Py.D} {i : Nat} {v : V}, RepL K fA H Z η vs ds → vs[i]? = some v → ∃ d, ds[i]? = some d ∧ Rep K fA H Z η v d
  | _, _, _, _, .nil, e => by simp at e
  | _, _, 0, _, .cons r _, e => by simp at e; subst e; exact ⟨_, rfl, r⟩
  | _, _, i + 1, d, .cons _ t, e => by
    obtain ⟨v, h1, h2⟩ := RepL.getV (i := i) t (by simpa using e)
    exact ⟨v, by simpa using h1, h2⟩
theorem RepL.take : ∀ {vs : List V} {ds : List Py.D} (n : Nat), RepL K fA H Z η vs ds → RepL K fA H Z η (vs.take n) (ds.take n)
  | _, _, 0, _ => .nil
  | _, _, _ + 1, .nil => .nil
  | _, _, n + 1, .cons r t => .cons r (t.take n)
theorem RepL.drop : ∀ {vs : List V} {ds : List Py.D} (n : Nat), RepL K fA H Z η vs ds → RepL K fA H Z η (vs.drop n) (ds.drop n)
  | _, _, 0, r => r
  | _, _, _ + 1, .nil => .nil
  | _, _, n + 1, .cons _ t => t.drop n
theorem RepL.set {v : V} {d : Py.D} (q : Rep K fA H Z η v d) : ∀ {vs : List V} {ds : List Py.D} (i : Nat), RepL K fA H Z η vs ds → RepL K fA H Z η (vs.set i v) (ds.set i d)
  | _, _, _, .nil => .nil
  | _, _, 0, .cons _ t => .cons q t
  | _, _, i + 1, .cons r t => .cons r (t.set q i)
theorem RepL.one {v : V} {d : Py.D} (q : Rep K fA H Z η v d) : RepL K fA H Z η [v] [d] := .cons q .nil
theorem RepL.reverse : ∀ {vs : List V} {ds : List Py.D}, RepL K fA H Z η vs ds → RepL K fA H Z η vs.reverse ds.reverse
  | _, _, .nil => .nil
  | _, _, .cons r t => by
    rw [List.reverse_cons, List.reverse_cons]
    exact t.reverse.append (.one r)
theorem RepL.flat : ∀ (n : Nat) {vs : List V} {ds : List Py.D}, RepL K fA H Z η vs ds → RepL K fA H Z η (List.replicate n vs).flatten (List.replicate n ds).flatten
  | 0, _, _, _ => .nil
  | n + 1, _, _, r => by
    rw [List.replicate_succ, List.flatten_cons, List.replicate_succ, List.flatten_cons]
    exact r.append (RepL.flat n r)
end

/-- what one may read off a value: as Rep, but the list itself may still be written by its owner -/
inductive View (K : PySem.W.Frag) (fA : Nat → Option Addr) (H : Hp) (Z : Addr → Prop) (η : List Addr) : V → Py.D → Prop
  | of {v : V} {d : Py.D} : Rep K fA H Z η v d → View K fA H Z η v d
  | ls {a : Addr} {vs : List V} {ds : List Py.D} : H a = some (.lst vs) → RepL K fA H Z η vs ds → View K fA H Z η (.ref a) (.lst ds)
section
variable {K : PySem.W.Frag} {fA : Nat → Option Addr} {H H' : Hp} {Z Z' : Addr → Prop} {η η' : List Addr} {v : V}
theorem View.non (h : View K fA H Z η v .non) : v = .non := by
  cases h with
  | of h => cases h; rfl
theorem View.bl {b : Bool} (h : View K fA H Z η v (.bl b)) : v = .bl b := by
  cases h with
  | of h => cases h; rfl
theorem View.int {i : Int} (h : View K fA H Z η v (.int i)) : v = .int i := by
  cases h with
  | of h => cases h; rfl
theorem View.str {cs : List Nat} (h : View K fA H Z η v (.str cs)) : v = .str ⟨cs.toArray⟩ ∧ (cs.all fun c => decide (c < 1114112)) = true := by
  cases h with
  | of h => cases h; exact ⟨rfl, by assumption⟩
theorem View.tup {ds : List Py.D} (h : View K fA H Z η v (.tup ds)) : ∃ a vs, v = .ref a ∧ H a = some (.tup vs) ∧ RepL K fA H Z η vs ds := by
  cases h with
  | of h => cases h; exact ⟨_, _, rfl, by assumption, by assumption⟩
theorem View.lst {ds : List Py.D} (h : View K fA H Z η v (.lst ds)) : ∃ a vs, v = .ref a ∧ H a = some (.lst vs) ∧ RepL K fA H Z η vs ds := by
  cases h with
  | of h => cases h with
    | lst z h r => exact ⟨_, _, rfl, h, r⟩
  | ls h r => exact ⟨_, _, rfl, h, r⟩
theorem View.scr {ds : List Py.D} (h : View K fA H Z η v (.scr ds)) : ∃ a vs, v = .ref a ∧ SqL K H a vs ∧ RepL K fA H Z η vs ds := by
  cases h with
  | of h => cases h with
    | scr h r =>
      rcases h with ⟨_, h⟩ | h
      · exact ⟨_, _, rfl, .inl h, r⟩
      · exact ⟨_, _, rfl, .inr h, r⟩
end

/-- what a stretch of the run leaves: all but the cells (η) as it was, new things in new places -/
structure Step (H : Hp) (Z : Addr → Prop) (η : List Addr) (H' : Hp) (Z' : Addr → Prop) (η' : List Addr) : Prop where
  keep : ∀ b o, H b = some o → b ∉ η → H' b = some o
  tups : ∀ b xs, H b = some (.tup xs) → H' b = some (.tup xs)
  there : ∀ b, H b ≠ none → H' b ≠ none
  zz : ∀ b, Z b → Z' b
  nz : ∀ b, Z' b → Z b ∨ H b = none
  eta : ∃ l, η' = η ++ l ∧ ∀ a ∈ l, H a = none
/-- the cells' objects, what is never written again -/
structure WInv (K : PySem.W.Frag) (fA : Nat → Option Addr) (H : Hp) (Z : Addr → Prop) (η : List Addr) (ω : Py.Store) : Prop where
  zη : ∀ b, Z b → b ∉ η
  zd : ∀ b, Z b → H b ≠ none
  ηd : ∀ b, b ∈ η → H b ≠ none
  nd : η.Nodup
  len : η.length = ω.length
  cell : ∀ (n : Nat) xs, ω[n]? = some (Py.Cell.lst xs) → ∃ a vs, η[n]? = some a ∧ H a = some (.lst vs) ∧ RepL K fA H Z η vs xs
  nins : ∀ (n : Nat) c fs, ω[n]? ≠ some (Py.Cell.ins c fs)
  ndct : ∀ (n : Nat) kvs, ω[n]? ≠ some (Py.Cell.dct kvs)
theorem Step.refl {H : Hp} {Z : Addr → Prop} {η : List Addr} : Step H Z η H Z η :=
  ⟨fun _ _ h _ => h, fun _ _ h => h, fun _ h => h, fun _ h => h, fun _ h => .inl h, [], by simp, fun _ h => absurd h (by simp)⟩
theorem Step.trans {H H1 H2 : Hp} {Z Z1 Z2 : Addr → Prop} {η η1 η2 : List Addr} (a : Step H Z η H1 Z1 η1) (b : Step H1 Z1 η1 H2 Z2 η2) : Step H Z η H2 Z2 η2 := by
  have nn : ∀ b, H1 b = none → H b = none := fun b h => by
    cases q : H b with
    | none => rfl
    | some o => exact absurd h (a.there b (by rw [q]; simp))
  refine ⟨fun c o h hn => b.keep c o (a.keep c o h hn) fun hm => ?_, fun c xs h => b.tups c xs (a.tups c xs h), fun c h => b.there c (a.there c h), fun c h => b.zz c (a.zz c h), fun c h => ?_, ?_⟩
  · obtain ⟨l, rfl, hl⟩ := a.eta
    rcases List.mem_append.mp hm with z | z
    · exact hn z
    · rw [hl c z] at h; cases h
  · rcases b.nz c h with z | z
    · exact a.nz c z
    · exact .inr (nn c z)
  · obtain ⟨l, rfl, hl⟩ := a.eta
    obtain ⟨l', rfl, hl'⟩ := b.eta
    refine ⟨l ++ l', by simp, fun c hc => ?_⟩
    rcases List.mem_append.mp hc with z | z
    · exact hl c z
    · exact nn c (hl' c z)
section
variable {K : PySem.W.Frag} {fA : Nat → Option Addr} {H H' : Hp} {Z Z' : Addr → Prop} {η η' : List Addr} {ω ω' : Py.Store} {v : V} {d : Py.D} {vs : List V} {ds : List Py.D}
theorem Step.rep (s : Step H Z η H' Z' η') (w : WInv K fA H Z η ω) (r : Rep K fA H Z η v d) : Rep K fA H' Z' η' v d :=
  r.mono (fun b o h hz => by
    rcases hz with z | ⟨xs, rfl⟩
    · exact s.keep b o h (w.zη b z)
    · exact s.tups b xs h) s.zz (by obtain ⟨l, e, _⟩ := s.eta; exact ⟨l, e⟩)
theorem Step.repL (s : Step H Z η H' Z' η') (w : WInv K fA H Z η ω) (r : RepL K fA H Z η vs ds) : RepL K fA H' Z' η' vs ds :=
  r.mono (fun b o h hz => by
    rcases hz with z | ⟨xs, rfl⟩
    · exact s.keep b o h (w.zη b z)
    · exact s.tups b xs h) s.zz (by obtain ⟨l, e, _⟩ := s.eta; exact ⟨l, e⟩)
end

/-! ### the slots -/
/-- a slot that owns its list: nobody else reads or writes at p -/
def OwnAt (K : PySem.W.Frag) (fA : Nat → Option Addr) (H0 H : Hp) (Z : Addr → Prop) (η : List Addr) (p : Addr) (ds : List Py.D) : Prop :=
  ∃ vs, H p = some (.lst vs) ∧ RepL K fA H Z η vs ds ∧ ¬ Z p ∧ p ∉ η ∧ H0 p = none
structure Slots (K : PySem.W.Frag) (fA : Nat → Option Addr) (xa : Option (Nat × Addr × Nat)) (H0 H : Hp) (Z : Addr → Prop) (η : List Addr) (σ : L2.St) (r : Py.Env) : Prop where
  len : r.length = σ.length
  val : ∀ (i : Nat) d, r[i]? = some (.v d) → ∃ v, σ[i]? = some (some v) ∧ Rep K fA H Z η v d
  own : ∀ (i : Nat) ds, r[i]? = some (.o ds) → ∃ p, σ[i]? = some (some (.ref p)) ∧ OwnAt K fA H0 H Z η p ds
  apart : ∀ (i j : Nat) ds es p, r[i]? = some (.o ds) → r[j]? = some (.o es) → σ[i]? = some (some (.ref p)) → σ[j]? = some (some (.ref p)) → i = j
  xs : ∀ (i : Nat) n, r[i]? = some (.x n) → ∃ a, xa = some (i, a, n) ∧ σ[i]? = some (some (.ref a))
structure EnvR (K : PySem.W.Frag) (fA : Nat → Option Addr) (xa : Option (Nat × Addr × Nat)) (H0 : Hp) (Z0 : Addr → Prop) (η0 : List Addr) (σ : L2.St) (r : Py.Env) (H : Hp) (Z : Addr → Prop) (η : List Addr) (ω : Py.Store) : Prop where
  w : WInv K fA H Z η ω
  s0 : Step H0 Z0 η0 H Z η
  sl : Slots K fA xa H0 H Z η σ r
section
variable {K : PySem.W.Frag} {fA : Nat → Option Addr} {xa : Option (Nat × Addr × Nat)} {H0 H H' : Hp} {Z0 Z Z' : Addr → Prop} {η0 η η' : List Addr} {ω ω' : Py.Store} {σ : L2.St} {r : Py.Env}
theorem OwnAt.step {p : Addr} {ds : List Py.D} (s : Step H Z η H' Z' η') (w : WInv K fA H Z η ω) (o : OwnAt K fA H0 H Z η p ds) : OwnAt K fA H0 H' Z' η' p ds := by
  obtain ⟨vs, h, rl, nz, nη, h0⟩ := o
  refine ⟨vs, s.keep _ _ h nη, s.repL w rl, fun z => ?_, fun m => ?_, h0⟩
  · rcases s.nz _ z with q | q
    · exact nz q
    · rw [q] at h; cases h
  · obtain ⟨l, rfl, hl⟩ := s.eta
    rcases List.mem_append.mp m with q | q
    · exact nη q
    · rw [hl _ q] at h; cases h
theorem Slots.step (s : Step H Z η H' Z' η') (w : WInv K fA H Z η ω) (o : Slots K fA xa H0 H Z η σ r) : Slots K fA xa H0 H' Z' η' σ r :=
  ⟨o.len, fun i d e => let ⟨v, h, q⟩ := o.val i d e; ⟨v, h, s.rep w q⟩, fun i ds e => let ⟨p, h, q⟩ := o.own i ds e; ⟨p, h, q.step s w⟩, o.apart, o.xs⟩
theorem EnvR.step (e : EnvR K fA xa H0 Z0 η0 σ r H Z η ω) (s : Step H Z η H' Z' η') (w : WInv K fA H' Z' η' ω') : EnvR K fA xa H0 Z0 η0 σ r H' Z' η' ω' :=
  ⟨w, e.s0.trans s, e.sl.step s e.w⟩
end
end PyS

end
section
namespace PyS
open PySem PySem.Spec PyProof.Rows L2

/-- where one stands: the context, where the defs and the classes of exceptions stand, what is wished of an exception, the state at the def's entry -/
structure Ct where
  X : Cx
  fA : Nat → Option Addr
  eA : Nat → Option Addr
  W : WX
  H0 : Hp
  Z0 : Addr → Prop
  η0 : List Addr
  xa : Option (Nat × Addr × Nat)
abbrev Ct.Env (c : Ct) (σ : L2.St) (r : Py.Env) (H : Hp) (Z : Addr → Prop) (η : List Addr) (ω : Py.Store) : Prop := EnvR c.X.K c.fA c.xa c.H0 c.Z0 c.η0 σ r H Z η ω
abbrev Ct.WI (c : Ct) (H : Hp) (Z : Addr → Prop) (η : List Addr) (ω : Py.Store) : Prop := WInv c.X.K c.fA H Z η ω
abbrev Ct.Rep (c : Ct) (H : Hp) (Z : Addr → Prop) (η : List Addr) (v : V) (d : Py.D) : Prop := PyS.Rep c.X.K c.fA H Z η v d
abbrev Ct.RepL (c : Ct) (H : Hp) (Z : Addr → Prop) (η : List Addr) (v : List V) (d : List Py.D) : Prop := PyS.RepL c.X.K c.fA H Z η v d
abbrev Ct.View (c : Ct) (H : Hp) (Z : Addr → Prop) (η : List Addr) (v : V) (d : Py.D) : Prop := PyS.View c.X.K c.fA H Z η v d
structure Ct.Nx (c : Ct) (H : Hp) (Z : Addr → Prop) (η : List Addr) (H' : Hp) (Z' : Addr → Prop) (η' : List Addr) (ω' : Py.Store) : Prop where
  s : Step H Z η H' Z' η'
  w : c.WI H' Z' η' ω'
theorem Ct.Nx.trans {c : Ct} {H H1 H2 : Hp} {Z Z1 Z2 : Addr → Prop} {η η1 η2 : List Addr} {ω1 ω2 : Py.Store} (a : c.Nx H Z η H1 Z1 η1 ω1) (b : c.Nx H1 Z1 η1 H2 Z2 η2 ω2) : c.Nx H Z η H2 Z2 η2 ω2 := ⟨a.s.trans b.s, b.w⟩

inductive Kd | val | frs | pk (i : Nat)
/-- how a result stands: a value; a new list that nobody else knows; the list that slot i owns -/
def ResR (c : Ct) (k : Kd) (r : Py.Env) (σ : L2.St) (H H' : Hp) (Z' : Addr → Prop) (η' : List Addr) (v : V) (d : Py.D) : Prop := match k with
  | .val => c.Rep H' Z' η' v d
  | .frs => (∃ p vs ds, v = .ref p ∧ d = .lst ds ∧ H p = none ∧ H' p = some (.lst vs) ∧ c.RepL H' Z' η' vs ds ∧ ¬ Z' p ∧ p ∉ η') ∨ (c.Rep H' Z' η' v d ∧ ∀ ds, d ≠ .lst ds)
  | .pk i => σ[i]? = some (some v) ∧ ∃ ds, r[i]? = some (.o ds) ∧ d = .lst ds
def post (c : Ct) (k : Kd) (σ : L2.St) (r : Py.Env) (H : Hp) (Z : Addr → Prop) (η : List Addr) (Q : VK) (res : Py.Res Py.D) : Prop := match res with
  | .ok d ω' => ∀ v H' Z' η', c.Nx H Z η H' Z' η' ω' → ResR c k r σ H H' Z' η' v d → Q v H'
  | .exc x ω' => ∀ H' Z' η' a, c.Nx H Z η H' Z' η' ω' → c.eA x = some a → c.W (.ref a) none σ H'
  | .stuck => False
/-- the reading of an expression that gives m -/
def tE (c : Ct) (k : Kd) (m : Py.Env → Py.M Py.D) : TE := fun σ H Q => ∃ Z η ω r, c.Env σ r H Z η ω ∧ post c k σ r H Z η Q (m r ω)
def JE (c : Ct) (k : Kd) (e : Expr) (m : Py.Env → Py.M Py.D) : Prop := PE c.X e (tE c k m)
theorem PE.imp {X : Cx} {e : Expr} {t t' : TE} (h : PE X e t) (i : ∀ σ H Q, t' σ H Q → t σ H Q) : PE X e t' := ⟨fun pins s σ H Q I q => h.run pins s σ H Q I (i σ H Q q)⟩

section
variable {c : Ct} {k ka kb kc : Kd} {r : Py.Env} {σ : L2.St} {H H1 H2 : Hp} {Z Z1 Z2 : Addr → Prop} {η η1 η2 : List Addr} {ω ω1 ω2 : Py.Store} {Q : VK} {v : V} {d : Py.D}
theorem ResR.step (q : ResR c k r σ H H1 Z1 η1 v d) (w1 : c.WI H1 Z1 η1 ω1) (s : Step H1 Z1 η1 H2 Z2 η2) : ResR c k r σ H H2 Z2 η2 v d := by
  cases k with
  | val => exact s.rep w1 q
  | pk i => exact q
  | frs =>
    rcases q with ⟨p, vs, ds, e1, e2, h0, h1, rl, nz, nη⟩ | ⟨q, q2⟩
    case inr => exact .inr ⟨s.rep w1 q, q2⟩
    refine .inl ⟨p, vs, ds, e1, e2, h0, s.keep _ _ h1 nη, s.repL w1 rl, fun z => ?_, fun m => ?_⟩
    · rcases s.nz _ z with q | q
      · exact nz q
      · rw [q] at h1; cases h1
    · obtain ⟨l, rfl, hl⟩ := s.eta
      rcases List.mem_append.mp m with q | q
      · exact nη q
      · rw [hl _ q] at h1; cases h1
theorem ResR.base (q : ResR c k r σ H1 H2 Z2 η2 v d) (s : Step H Z η H1 Z1 η1) : ResR c k r σ H H2 Z2 η2 v d := by
  cases k with
  | val => exact q
  | pk i => exact q
  | frs =>
    rcases q with ⟨p, vs, ds, e1, e2, h0, h1, rl, nz, nη⟩ | q
    case inr => exact .inr q
    refine .inl ⟨p, vs, ds, e1, e2, ?_, h1, rl, nz, nη⟩
    cases q : H p with
    | none => rfl
    | some o => exact absurd h0 (s.there p (by rw [q]; simp))
theorem ResR.view (q : ResR c k r σ H H1 Z1 η1 v d) (e : c.Env σ r H1 Z1 η1 ω1) : c.View H1 Z1 η1 v d := by
  cases k with
  | val => exact .of q
  | pk i =>
    obtain ⟨h, ds, e1, rfl⟩ := q
    obtain ⟨p, e2, vs, hp, rl, _⟩ := e.sl.own i ds e1
    rw [h] at e2
    cases e2
    exact .ls hp rl
  | frs =>
    rcases q with ⟨p, vs, ds, rfl, rfl, h0, h1, rl, nz, nη⟩ | q
    · exact .ls h1 rl
    · exact .of q.1
/-- a new list is never written again from here on -/
theorem ResR.freeze (q : ResR c .frs r σ H H1 Z1 η1 v d) (n : c.Nx H Z η H1 Z1 η1 ω1) : ∃ Z2, c.Nx H Z η H1 Z2 η1 ω1 ∧ c.Rep H1 Z2 η1 v d := by
  rcases q with ⟨p, vs, ds, rfl, rfl, h0, h1, rl, nz, nη⟩ | q
  case inr => exact ⟨_, n, q.1⟩
  have up : ∀ {vs : List V} {ds : List Py.D}, c.RepL H1 Z1 η1 vs ds → c.RepL H1 (fun b => Z1 b ∨ b = p) η1 vs ds := fun r => r.mono (fun _ _ h _ => h) (fun _ h => .inl h) ⟨[], by simp⟩
  refine ⟨fun b => Z1 b ∨ b = p, ⟨⟨n.s.keep, n.s.tups, n.s.there, fun b h => .inl (n.s.zz b h), fun b h => ?_, n.s.eta⟩, ⟨fun b h => ?_, fun b h => ?_, n.w.ηd, n.w.nd, n.w.len, fun i xs e => ?_, n.w.nins, n.w.ndct⟩⟩, .lst (.inr rfl) h1 (up rl)⟩
  · rcases h with h | rfl
    · exact n.s.nz b h
    · exact .inr h0
  · rcases h with h | rfl
    · exact n.w.zη b h
    · exact nη
  · rcases h with h | rfl
    · exact n.w.zd b h
    · rw [h1]; simp
  · obtain ⟨a, vs, e1, e2, e3⟩ := n.w.cell i xs e
    exact ⟨a, vs, e1, e2, up e3⟩
/-- what lies between two operands -/
def Mid (c : Ct) (k ka : Kd) (σ : L2.St) (H : Hp) (Q : VK) (f : Py.Env → Py.D → Py.M Py.D) (v : V) (H1 : Hp) : Prop :=
  ∃ Z η Z1 η1 ω1 r d, c.Env σ r H1 Z1 η1 ω1 ∧ Step H Z η H1 Z1 η1 ∧ ResR c ka r σ H H1 Z1 η1 v d ∧ post c k σ r H Z η Q (f r d ω1)
theorem tE.bnd {ma : Py.Env → Py.M Py.D} {f : Py.Env → Py.D → Py.M Py.D} (h : tE c k (fun r => Py.bnd (ma r) (f r)) σ H Q) : tE c ka ma σ H (Mid c k ka σ H Q f) := by
  obtain ⟨Z, η, ω, r, e, h⟩ := h
  refine ⟨Z, η, ω, r, e, ?_⟩
  unfold Py.bnd at h
  cases hm : ma r ω with
  | stuck => simp only [hm] at h; exact h
  | exc x ω' => simp only [hm] at h; exact h
  | ok d ω' =>
    simp only [hm] at h
    intro v H1 Z1 η1 n q
    exact ⟨Z, η, Z1, η1, ω', r, d, e.step n.s n.w, n.s, q, h⟩
def Mid2 (c : Ct) (k ka kb : Kd) (σ : L2.St) (H : Hp) (Q : VK) (f : Py.Env → Py.D → Py.D → Py.M Py.D) (v u : V) (H2 : Hp) : Prop :=
  ∃ Z η Z2 η2 ω2 r d e, c.Env σ r H2 Z2 η2 ω2 ∧ Step H Z η H2 Z2 η2 ∧ ResR c ka r σ H H2 Z2 η2 v d ∧ ResR c kb r σ H H2 Z2 η2 u e ∧ post c k σ r H Z η Q (f r d e ω2)
theorem Mid.bnd {mb : Py.Env → Py.M Py.D} {f : Py.Env → Py.D → Py.D → Py.M Py.D} (h : Mid c k ka σ H Q (fun r x => Py.bnd (mb r) (f r x)) v H1) : tE c kb mb σ H1 (Mid2 c k ka kb σ H Q f v) := by
  obtain ⟨Z, η, Z1, η1, ω1, r, d, e, s, q, h⟩ := h
  refine ⟨Z1, η1, ω1, r, e, ?_⟩
  unfold Py.bnd at h
  cases hm : mb r ω1 with
  | stuck => simp only [hm] at h; exact h
  | exc x ω' =>
    simp only [hm] at h
    intro H' Z' η' a n ha
    exact h H' Z' η' a ⟨s.trans n.s, n.w⟩ ha
  | ok d2 ω' =>
    simp only [hm] at h
    intro u H2 Z2 η2 n q2
    exact ⟨Z, η, Z2, η2, ω', r, d, d2, e.step n.s n.w, s.trans n.s, q.step e.w n.s, q2.base s, h⟩
def Mid3 (c : Ct) (k ka kb kc : Kd) (σ : L2.St) (H : Hp) (Q : VK) (f : Py.Env → Py.D → Py.D → Py.D → Py.M Py.D) (v u t : V) (H2 : Hp) : Prop :=
  ∃ Z η Z2 η2 ω2 r d e g, c.Env σ r H2 Z2 η2 ω2 ∧ Step H Z η H2 Z2 η2 ∧ ResR c ka r σ H H2 Z2 η2 v d ∧ ResR c kb r σ H H2 Z2 η2 u e ∧ ResR c kc r σ H H2 Z2 η2 t g ∧ post c k σ r H Z η Q (f r d e g ω2)
theorem Mid2.bnd {u : V} {mc : Py.Env → Py.M Py.D} {f : Py.Env → Py.D → Py.D → Py.D → Py.M Py.D} (h : Mid2 c k ka kb σ H Q (fun r x y => Py.bnd (mc r) (f r x y)) v u H1) : tE c kc mc σ H1 (Mid3 c k ka kb kc σ H Q f v u) := by
  obtain ⟨Z, η, Z1, η1, ω1, r, d, d', e, s, q, q', h⟩ := h
  refine ⟨Z1, η1, ω1, r, e, ?_⟩
  unfold Py.bnd at h
  cases hm : mc r ω1 with
  | stuck => simp only [hm] at h; exact h
  | exc x ω' =>
    simp only [hm] at h
    intro H' Z' η' a n ha
    exact h H' Z' η' a ⟨s.trans n.s, n.w⟩ ha
  | ok d2 ω' =>
    simp only [hm] at h
    intro u H2 Z2 η2 n q2
    exact ⟨Z, η, Z2, η2, ω', r, d, d', d2, e.step n.s n.w, s.trans n.s, q.step e.w n.s, q'.step e.w n.s, q2.base s, h⟩
end

theorem tE.weaken {c : Ct} {m : Py.Env → Py.M Py.D} {σ : L2.St} {H : Hp} {Q : VK} (h : tE c .val m σ H Q) : tE c .frs m σ H Q := by
  obtain ⟨Z, η, ω, r, e, q⟩ := h
  refine ⟨Z, η, ω, r, e, ?_⟩
  cases hm : m r ω with
  | stuck => rw [hm] at q; exact q
  | exc x ω' => rw [hm] at q; exact q
  | ok d ω' =>
    rw [hm] at q
    intro v H' Z' η' n qr
    obtain ⟨Z2, n2, r2⟩ := qr.freeze n
    exact q v H' Z2 η' n2 r2
theorem JE.weaken {c : Ct} {e : Expr} {m : Py.Env → Py.M Py.D} (h : JE c .frs e m) : JE c .val e m := PE.imp h fun σ H Q q => q.weaken
section
variable {c : Ct} {H H1 : Hp} {Z Z1 : Addr → Prop} {η η1 : List Addr} {ω1 : Py.Store} {p : Addr} {o : HO}
theorem Step.new (hp : H p = none) : Step H Z η (upd H p o) Z η :=
  ⟨fun b u h _ => by rw [upd_ne (ne_of_none h hp)]; exact h, fun b xs h => by rw [upd_ne (ne_of_none h hp)]; exact h, fun b h => by
    by_cases e : b = p
    · subst e; exact absurd hp h
    · rw [upd_ne e]; exact h, fun _ h => h, fun _ h => .inl h, [], by simp, fun _ h => absurd h (by simp)⟩
theorem Ct.WI.new (w : c.WI H Z η ω1) (hp : H p = none) : c.WI (upd H p o) Z η ω1 := by
  have s : Step H Z η (upd H p o) Z η := .new hp
  refine ⟨w.zη, fun b h => s.there b (w.zd b h), fun b h => s.there b (w.ηd b h), w.nd, w.len, fun n xs e => ?_, w.nins, w.ndct⟩
  obtain ⟨a, vs, e1, e2, e3⟩ := w.cell n xs e
  exact ⟨a, vs, e1, by rw [upd_ne (ne_of_none e2 hp)]; exact e2, s.repL w e3⟩
theorem Ct.Nx.new (n : c.Nx H Z η H1 Z1 η1 ω1) (hp : H1 p = none) : c.Nx H Z η (upd H1 p o) Z1 η1 ω1 := ⟨n.s.trans (.new hp), Ct.WI.new n.w hp⟩
theorem Ct.WI.znone (w : c.WI H Z η ω1) (hp : H p = none) : ¬ Z p ∧ p ∉ η := ⟨fun z => w.zd p z hp, fun m => w.ηd p m hp⟩
theorem Ct.Nx.none (n : c.Nx H Z η H1 Z1 η1 ω1) (hp : H1 p = none) : H p = none := by
  cases q : H p with
  | none => rfl
  | some u => exact absurd hp (n.s.there p (by rw [q]; simp))
/-- .. a list, nobody else's -/
theorem ResR.newL {r : Py.Env} {σ : L2.St} {vs : List V} {ds : List Py.D} (n : c.Nx H Z η H1 Z1 η1 ω1) (hp : H1 p = none) (rl : c.RepL H1 Z1 η1 vs ds) : ResR c .frs r σ H (upd H1 p (.lst vs)) Z1 η1 (.ref p) (.lst ds) :=
  .inl ⟨p, vs, ds, rfl, rfl, n.none hp, upd_same, (Step.new hp).repL n.w rl, (Ct.WI.znone n.w hp).1, (Ct.WI.znone n.w hp).2⟩
theorem Rep.newT {vs : List V} {ds : List Py.D} (n : c.Nx H Z η H1 Z1 η1 ω1) (hp : H1 p = none) (rl : c.RepL H1 Z1 η1 vs ds) : c.Rep (upd H1 p (.tup vs)) Z1 η1 (.ref p) (.tup ds) :=
  .tup upd_same ((Step.new hp).repL n.w rl)
end

/-! ### leaves -/
section
variable {c : Ct} {k ka kb kc : Kd} {σ : L2.St} {H H1 H2 : Hp} {Q : VK} {v u : V}
/-- a pure end behind one operand -/
theorem Mid.pure {g : Py.D → Option Py.D} (h : Mid c k ka σ H Q (fun _ x => Py.lif (g x)) v H1) :
    ∃ Z η Z1 η1 ω1 r d y, c.Env σ r H1 Z1 η1 ω1 ∧ Step H Z η H1 Z1 η1 ∧ c.View H1 Z1 η1 v d ∧ g d = some y ∧ ∀ v' H' Z' η', c.Nx H Z η H' Z' η' ω1 → ResR c k r σ H H' Z' η' v' y → Q v' H' := by
  obtain ⟨Z, η, Z1, η1, ω1, r, d, e, s, q, h⟩ := h
  replace h : post c k σ r H Z η Q (Py.lif (g d) ω1) := h
  cases hg : g d with
  | none => rw [hg] at h; exact h.elim
  | some y => rw [hg] at h; exact ⟨Z, η, Z1, η1, ω1, r, d, y, e, s, q.view e, hg, h⟩
theorem Mid2.pure {g : Py.D → Py.D → Option Py.D} (h : Mid2 c k ka kb σ H Q (fun _ x y => Py.lif (g x y)) v u H1) :
    ∃ Z η Z1 η1 ω1 r d e y, c.Env σ r H1 Z1 η1 ω1 ∧ Step H Z η H1 Z1 η1 ∧ c.View H1 Z1 η1 v d ∧ c.View H1 Z1 η1 u e ∧ g d e = some y ∧ ∀ v' H' Z' η', c.Nx H Z η H' Z' η' ω1 → ResR c k r σ H H' Z' η' v' y → Q v' H' := by
  obtain ⟨Z, η, Z1, η1, ω1, r, d, d', e, s, q, q', h⟩ := h
  replace h : post c k σ r H Z η Q (Py.lif (g d d') ω1) := h
  cases hg : g d d' with
  | none => rw [hg] at h; exact h.elim
  | some y => rw [hg] at h; exact ⟨Z, η, Z1, η1, ω1, r, d, d', y, e, s, q.view e, q'.view e, hg, h⟩
end
end PyS

end
section
namespace PyS
open PySem PySem.Spec PyProof.Rows L2
/-! ### data, as the library's == reads it -/
mutual
def toPy : Py.D → PyData
  | .non => .none
  | .bl b => .bool b
  | .int i => .int i
  | .str cs => .str ⟨cs.toArray⟩
  | .tup xs => .tuple (toPys xs)
  | .lst xs => .list (toPys xs)
  | .scr xs => .list (toPys xs)
  | _ => .none
def toPys : List Py.D → List PyData
  | [] => []
  | x :: xs => toPy x :: toPys xs
end
theorem beq_tx (x y : List Nat) : ((⟨x.toArray⟩ : Str) == ⟨y.toArray⟩) = (x == y) := by
  rw [Bool.eq_iff_iff]
  simp
mutual
theorem eqv_toPy : ∀ (x y : Py.D) (n m : Nat), Py.shp n x = true → Py.shp m y = true → PyData.eqv (toPy x) (toPy y) = Py.eqD x y
  | .str x, y, n, m, hx, hy => by
    cases y <;> first
      | (simp only [toPy, PyData.eqv, Py.eqD]; done)
      | (simp only [toPy, PyData.eqv, Py.eqD]; exact beq_tx _ _)
      | (exfalso; revert hy; cases m <;> simp [Py.shp]; done)
  | .tup xs, y, n, m, hx, hy => by
    cases y <;> first
      | (simp only [toPy, PyData.eqv, Py.eqD]; done)
      | (exfalso; revert hy; cases m <;> simp [Py.shp]; done)
      | (simp only [toPy, PyData.eqv, Py.eqD]
         cases n with
         | zero => simp [Py.shp] at hx
         | succ n => cases m with
           | zero => simp [Py.shp] at hy
           | succ m => exact eqv_toPys xs _ n m (by simpa [Py.shp] using hx) (by simpa [Py.shp] using hy))
  | .lst xs, y, n, m, hx, hy => by
    cases y <;> first
      | (simp only [toPy, PyData.eqv, Py.eqD]; done)
      | (exfalso; revert hy; cases m <;> simp [Py.shp]; done)
      | (simp only [toPy, PyData.eqv, Py.eqD]
         cases n with
         | zero => simp [Py.shp] at hx
         | succ n => cases m with
           | zero => simp [Py.shp] at hy
           | succ m => exact eqv_toPys xs _ n m (by simpa [Py.shp] using hx) (by simpa [Py.shp] using hy))
  | .non, y, n, m, hx, hy => by
    cases y <;> first
      | (simp only [toPy, PyData.eqv, Py.eqD]; done)
      | (exfalso; revert hy; cases m <;> simp [Py.shp]; done)
  | .bl _, y, n, m, hx, hy => by
    cases y <;> first
      | (simp only [toPy, PyData.eqv, Py.eqD]; done)
      | (exfalso; revert hy; cases m <;> simp [Py.shp]; done)
  | .int _, y, n, m, hx, hy => by
    cases y <;> first
      | (simp only [toPy, PyData.eqv, Py.eqD]; done)
      | (exfalso; revert hy; cases m <;> simp [Py.shp]; done)
  | .scr _, y, n, m, hx, hy => by cases n <;> simp [Py.shp] at hx
  | .fn _, y, n, m, hx, hy => by cases n <;> simp [Py.shp] at hx
  | .loc _, y, n, m, hx, hy => by cases n <;> simp [Py.shp] at hx
  | .exc _, y, n, m, hx, hy => by cases n <;> simp [Py.shp] at hx
  | .clo _ _, y, n, m, hx, hy => by cases n <;> simp [Py.shp] at hx
theorem eqv_toPys : ∀ (xs ys : List Py.D) (n m : Nat), (∀ x ∈ xs, Py.shp n x = true) → (∀ y ∈ ys, Py.shp m y = true) → PyData.eqvAll (toPys xs) (toPys ys) = Py.eqL xs ys
  | [], [], _, _, _, _ => by simp only [toPys, PyData.eqvAll, Py.eqL]
  | [], y :: ys, _, _, _, _ => by simp only [toPys, PyData.eqvAll, Py.eqL]
  | x :: xs, [], _, _, _, _ => by simp only [toPys, PyData.eqvAll, Py.eqL]
  | x :: xs, y :: ys, n, m, hx, hy => by
    simp only [toPys, PyData.eqvAll, Py.eqL]
    rw [eqv_toPy x y n m (hx x (by simp)) (hy y (by simp)), eqv_toPys xs ys n m (fun z hz => hx z (by simp [hz])) (fun z hz => hy z (by simp [hz]))]
end
theorem eqv_shS {x y : Py.D} (hx : Py.shS x = true) (hy : Py.shp 8 y = true) : PyData.eqv (toPy x) (toPy y) = Py.eqD x y := by
  cases x with
  | scr xs =>
    have hx' : ∀ x ∈ xs, Py.shp 1 x = true := by simpa [Py.shS] using hx
    cases y with
    | lst ys =>
      simp only [toPy, PyData.eqv, Py.eqD]
      exact eqv_toPys xs ys 1 7 hx' (by simpa [Py.shp] using hy)
    | scr _ => simp [Py.shp] at hy
    | fn _ => simp [Py.shp] at hy
    | loc _ => simp [Py.shp] at hy
    | exc _ => simp [Py.shp] at hy
    | clo _ _ => simp [Py.shp] at hy
    | _ => simp only [toPy, PyData.eqv, Py.eqD]
  | _ => exact eqv_toPy _ _ 8 8 hx hy
/-! ### .. its depth, its signs -/
mutual
theorem depth_toPy : ∀ (x : Py.D) (n : Nat), Py.shp n x = true → (toPy x).depth ≤ n
  | .non, n, _ => by simp [toPy, PyData.depth]
  | .bl _, n, _ => by simp [toPy, PyData.depth]
  | .int _, n, _ => by simp [toPy, PyData.depth]
  | .str _, n, _ => by simp [toPy, PyData.depth]
  | .tup xs, 0, h => by simp [Py.shp] at h
  | .tup xs, n + 1, h => by
    have := depth_toPys xs n (by simpa [Py.shp] using h)
    simp only [toPy, PyData.depth]
    omega
  | .lst xs, 0, h => by simp [Py.shp] at h
  | .lst xs, n + 1, h => by
    have := depth_toPys xs n (by simpa [Py.shp] using h)
    simp only [toPy, PyData.depth]
    omega
  | .scr _, n, hx => by cases n <;> simp [Py.shp] at hx
  | .fn _, n, hx => by cases n <;> simp [Py.shp] at hx
  | .loc _, n, hx => by cases n <;> simp [Py.shp] at hx
  | .exc _, n, hx => by cases n <;> simp [Py.shp] at hx
  | .clo _ _, n, hx => by cases n <;> simp [Py.shp] at hx
theorem depth_toPys : ∀ (xs : List Py.D) (n : Nat), (∀ x ∈ xs, Py.shp n x = true) → PyData.depthAll (toPys xs) ≤ n
  | [], n, _ => by simp [toPys, PyData.depthAll]
  | x :: xs, n, h => by
    have h1 := depth_toPy x n (h x (by simp))
    have h2 := depth_toPys xs n fun z hz => h z (by simp [hz])
    simp only [toPys, PyData.depthAll]
    omega
end
section
variable {K : PySem.W.Frag} {fA : Nat → Option Addr} {H : Hp} {Z : Addr → Prop} {η : List Addr}
mutual
theorem Rep.dp : ∀ (d : Py.D) (v : V) (n : Nat), Rep K fA H Z η v d → Py.shp n d = true → Dp K H v (toPy d) ∧ (toPy d).canLay0 = true
  | .non, _, _, h, _ => by cases h; exact ⟨.non, by simp [toPy, PyData.canLay0]⟩
  | .bl _, _, _, h, _ => by cases h; exact ⟨.bl _, by simp [toPy, PyData.canLay0]⟩
  | .int _, _, _, h, _ => by cases h; exact ⟨.int _, by simp [toPy, PyData.canLay0]⟩
  | .str cs, _, _, h, _ => by
    cases h with
    | str _ hc => exact ⟨.str _, by simpa [toPy, PyData.canLay0, PyData.strOk] using hc⟩
  | .tup xs, _, 0, _, hs => by simp [Py.shp] at hs
  | .tup xs, _, n + 1, h, hs => by
    cases h with
    | tup e r =>
      obtain ⟨h1, h2⟩ := RepL.dp xs _ n r (by simpa [Py.shp] using hs)
      exact ⟨.tup (.of e) h1, by simp only [toPy, PyData.canLay0]; exact h2⟩
  | .lst xs, _, 0, _, hs => by simp [Py.shp] at hs
  | .lst xs, _, n + 1, h, hs => by
    cases h with
    | lst z e r =>
      obtain ⟨h1, h2⟩ := RepL.dp xs _ n r (by simpa [Py.shp] using hs)
      exact ⟨.lst (.of e) h1, by simp only [toPy, PyData.canLay0]; exact h2⟩
  | .scr _, _, n, _, hx => by cases n <;> simp [Py.shp] at hx
  | .fn _, _, n, _, hx => by cases n <;> simp [Py.shp] at hx
  | .loc _, _, n, _, hx => by cases n <;> simp [Py.shp] at hx
  | .exc _, _, n, _, hx => by cases n <;> simp [Py.shp] at hx
  | .clo _ _, _, n, _, hx => by cases n <;> simp [Py.shp] at hx
theorem RepL.dp : ∀ (ds : List Py.D) (vs : List V) (n : Nat), RepL K fA H Z η vs ds → (∀ x ∈ ds, Py.shp n x = true) → DpAll K H vs (toPys ds) ∧ PyData.canLayAll0 (toPys ds) = true
  | [], _, _, h, _ => by cases h; exact ⟨.nil, by simp [toPys, PyData.canLayAll0]⟩
  | d :: ds, _, n, h, hs => by
    cases h with
    | cons r t =>
      obtain ⟨h1, h2⟩ := Rep.dp d _ n r (hs d (by simp))
      obtain ⟨h3, h4⟩ := RepL.dp ds _ n t fun z hz => hs z (by simp [hz])
      exact ⟨.cons h1 h3, by simp only [toPys, PyData.canLayAll0, h2, h4, Bool.and_self]⟩
end
theorem View.dp {d : Py.D} {v : V} (h : View K fA H Z η v d) (hs : Py.shS d = true) : Dp K H v (toPy d) ∧ SeqAt.shaped (toPy d) = true := by
  have fin : ∀ {n : Nat} {d : Py.D}, n ≤ 64 → (toPy d).canLay0 = true → (toPy d).depth ≤ n → SeqAt.shaped (toPy d) = true := fun hn h1 h2 => by
    show ((toPy _).canLay0 && decide ((toPy _).depth ≤ 64)) = true
    rw [h1, Bool.true_and]
    exact decide_eq_true (by omega)
  by_cases hsc : ∃ xs, d = .scr xs
  · obtain ⟨xs, rfl⟩ := hsc
    have hx' : ∀ x ∈ xs, Py.shp 1 x = true := by simpa [Py.shS] using hs
    obtain ⟨a, vs, rfl, hq, rl⟩ := h.scr
    obtain ⟨h1, h2⟩ := RepL.dp xs vs 1 rl hx'
    refine ⟨.lst hq h1, fin (n := 2) (by omega) (by simp only [toPy, PyData.canLay0]; exact h2) ?_⟩
    have := depth_toPys xs 1 hx'
    simp only [toPy, PyData.depth]
    omega
  · have hs8 : Py.shp 8 d = true := by
      cases d <;> first | exact hs | exact absurd ⟨_, rfl⟩ hsc
    have hd := depth_toPy d 8 hs8
    cases h with
    | of h =>
      obtain ⟨h1, h2⟩ := Rep.dp d v 8 h hs8
      exact ⟨h1, fin (n := 8) (by omega) h2 hd⟩
    | ls h r =>
      obtain ⟨h1, h2⟩ := RepL.dp _ _ 7 r (by simpa [Py.shp] using hs8)
      exact ⟨.lst (.of h) h1, fin (n := 8) (by omega) (by simp only [toPy, PyData.canLay0]; exact h2) hd⟩
end
end PyS

end
section
namespace PyS
open PySem PySem.Spec PyProof.Rows L2
theorem lim_eq : Py.LIM = sizeLine := by rw [sizeLine_eq]
def opOf : Py.Bop → Operator
  | .add => .Add | .sub => .Sub | .mul => .Mult | .fdiv => .FloorDiv | .mod => .Mod | .pow => .Pow
def copOf : Py.Cop → CmpOp
  | .eq => .Eq | .ne => .NotEq | .lt => .Lt | .le => .LtE | .gt => .Gt | .ge => .GtE | .inn => .In | .nin => .NotIn
section
variable {c : Ct} {k ka kb kc : Kd} {σ : L2.St} {H H1 H2 : Hp} {Q : VK} {v u : V}
/-- what an operation on two values must do to be the operation on data -/
def OpS (X : Cx) (f : Value → Value → Sem Value) (c : Ct) (g : Py.D → Py.D → Option Py.D) : Prop :=
  ∃ r : R2, OpR X f r ∧ ∀ (x y : V) (d e z : Py.D) (H : Hp) (Z : Addr → Prop) (η : List Addr) (ω : Py.Store) (Q : VK), c.WI H Z η ω → c.View H Z η x d → c.View H Z η y e → g d e = some z →
    (∀ v H', (∃ p, H p = none ∧ ((∃ vs ds, v = .ref p ∧ z = .lst ds ∧ H' = upd H p (.lst vs) ∧ c.RepL H Z η vs ds) ∨ (∃ vs ds, v = .ref p ∧ z = .tup ds ∧ H' = upd H p (.tup vs) ∧ c.RepL H Z η vs ds))) ∨ (H' = H ∧ c.Rep H Z η v z ∧ ∀ ds, z ≠ .lst ds) → Q v H') → r x y H Q
theorem finish {r : Py.Env} {Z Z1 : Addr → Prop} {η η1 : List Addr} {ω1 : Py.Store} {z : Py.D} (e : c.Env σ r H1 Z1 η1 ω1) (s : Step H Z η H1 Z1 η1)
    (h : ∀ v' H' Z' η', c.Nx H Z η H' Z' η' ω1 → ResR c .frs r σ H H' Z' η' v' z → Q v' H') :
    ∀ v H', (∃ p, H1 p = none ∧ ((∃ vs ds, v = .ref p ∧ z = .lst ds ∧ H' = upd H1 p (.lst vs) ∧ c.RepL H1 Z1 η1 vs ds) ∨ (∃ vs ds, v = .ref p ∧ z = .tup ds ∧ H' = upd H1 p (.tup vs) ∧ c.RepL H1 Z1 η1 vs ds))) ∨ (H' = H1 ∧ c.Rep H1 Z1 η1 v z ∧ ∀ ds, z ≠ .lst ds) → Q v H' := by
  have n : c.Nx H Z η H1 Z1 η1 ω1 := ⟨s, e.w⟩
  rintro v H' (⟨p, hp, ⟨vs, ds, rfl, rfl, rfl, rl⟩ | ⟨vs, ds, rfl, rfl, rfl, rl⟩⟩ | ⟨rfl, q, nl⟩)
  · exact h _ _ Z1 η1 (n.new hp) (ResR.newL n hp rl)
  · exact h _ _ Z1 η1 (n.new hp) (.inr ⟨Rep.newT n hp rl, fun _ z => by cases z⟩)
  · exact h _ _ Z1 η1 n (.inr ⟨q, nl⟩)
theorem tE.mono {m : Py.Env → Py.M Py.D} {Q' : VK} (h : tE c k m σ H Q) (i : ∀ v H', Q v H' → Q' v H') : tE c k m σ H Q' := by
  obtain ⟨Z, η, ω, r, e, h⟩ := h
  refine ⟨Z, η, ω, r, e, ?_⟩
  cases hm : m r ω with
  | stuck => rw [hm] at h; exact h
  | exc x ω' => rw [hm] at h; exact h
  | ok d ω' => rw [hm] at h; exact fun v H' Z' η' n q => i _ _ (h v H' Z' η' n q)
theorem je_op {op : Operator} {a b : Expr} {pos : Pos} {ma mb : Py.Env → Py.M Py.D} {g : Py.D → Py.D → Option Py.D} (ho : OpS c.X (binaryOp op) c g) (ha : JE c ka a ma) (hb : JE c kb b mb) :
    JE c .frs (.BinOp a op b pos) (fun r => Py.bnd (ma r) fun x => Py.bnd (mb r) fun y => Py.lif (g x y)) := by
  obtain ⟨r, h1, h2⟩ := ho
  refine PE.imp (pe_op h1 ha hb) fun σ H Q h => ?_
  refine tE.mono h.bnd fun x H1 hx => tE.mono hx.bnd fun y H2 hy => ?_
  obtain ⟨Z, η, Z1, η1, ω1, r, d, e, z, en, s, vd, ve, hg, q⟩ := hy.pure
  exact h2 x y d e z H2 Z1 η1 ω1 Q en.w vd ve hg (finish en s q)
/-! ### + - * // % ** -/
theorem small_iff {i : Int} : Py.small i = true ↔ -(2 ^ 64) < i ∧ i < 2 ^ 64 := by
  simp [Py.small]
theorem str_of (x : Str) : (⟨x.cps.toList.toArray⟩ : Str) = x := by cases x; simp
theorem str_add (x y : List Nat) : (⟨x.toArray⟩ : Str) ++ ⟨y.toArray⟩ = ⟨(x ++ y).toArray⟩ := by
  show (⟨x.toArray ++ y.toArray⟩ : Str) = _
  simp
theorem len_tx (x : List Nat) : (⟨x.toArray⟩ : Str).length = x.length := by
  show x.toArray.size = x.length
  simp
theorem opS_add : OpS c.X (binaryOp .Add) c (Py.binD .add) := by
  refine ⟨_, op_add.or (op_add_ib.or (op_add_str.or (op_catA.or op_cat))), ?_⟩
  intro x y d e z H Z η ω Q w vd ve hg q
  cases d <;> cases e <;> (try (simp [Py.binD] at hg; done))
  case int.bl i b =>
    simp only [Py.binD, Option.some.injEq] at hg
    subst hg
    cases vd.int
    cases ve.bl
    refine .inr (.inl ⟨_, _, rfl, rfl, q _ _ (.inr ⟨rfl, ?_, fun _ z => by cases z⟩)⟩)
    have e : b2i b = if b = true then 1 else 0 := by cases b <;> rfl
    rw [e]
    exact .int _
  case int.int i j =>
    simp only [Py.binD, Option.some.injEq] at hg
    subst hg
    cases vd.int
    cases ve.int
    exact .inl ⟨_, _, rfl, rfl, q _ _ (.inr ⟨rfl, .int _, fun _ z => by cases z⟩)⟩
  case str.str s t =>
    simp only [Py.binD] at hg
    split at hg
    case isFalse => cases hg
    case isTrue hl =>
      cases hg
      obtain ⟨rfl, h1⟩ := vd.str
      obtain ⟨rfl, h2⟩ := ve.str
      refine .inr (.inr (.inl ⟨_, _, rfl, rfl, by rw [len_tx, len_tx, ← lim_eq]; exact hl, q _ _ (.inr ⟨rfl, ?_, fun _ z => by cases z⟩)⟩))
      rw [str_add]
      exact .str _ (by rw [List.all_append, h1, h2]; rfl)
  case tup.tup xs ys =>
    simp only [Py.binD] at hg
    split at hg
    case isFalse => cases hg
    case isTrue hl =>
      cases hg
      obtain ⟨a, vs, rfl, h1, r1⟩ := vd.tup
      obtain ⟨b, us, rfl, h2, r2⟩ := ve.tup
      refine .inr (.inr (.inr (.inl ⟨a, b, vs, us, rfl, rfl, .of h1, .of h2, by rw [r1.length, r2.length, ← lim_eq]; exact hl, fun e => q _ _ (.inr ⟨rfl, ?_, fun _ z => by cases z⟩), fun _ e => q _ _ (.inr ⟨rfl, ?_, fun _ z => by cases z⟩), fun _ _ p hp => q _ _ (.inl ⟨p, hp, .inr ⟨_, _, rfl, rfl, rfl, r1.append r2⟩⟩)⟩)))
      · subst e
        cases r1
        rw [List.nil_append]
        exact .tup h2 r2
      · subst e
        cases r2
        rw [List.append_nil]
        exact .tup h1 r1
  case lst.lst xs ys =>
    simp only [Py.binD] at hg
    split at hg
    case isFalse => cases hg
    case isTrue hl =>
      cases hg
      obtain ⟨a, vs, rfl, h1, r1⟩ := vd.lst
      obtain ⟨b, us, rfl, h2, r2⟩ := ve.lst
      exact .inr (.inr (.inr (.inr ⟨a, b, vs, us, rfl, rfl, h1, h2, by rw [r1.length, r2.length, ← lim_eq]; exact hl, fun p hp => q _ _ (.inl ⟨p, hp, .inl ⟨_, _, rfl, rfl, rfl, r1.append r2⟩⟩)⟩)))
theorem opS_ii {f : Value → Value → Sem Value} {g : Py.D → Py.D → Option Py.D} {C : Int → Int → Prop} {h : Int → Int → Int} (ho : OpR c.X f (rI C fun i j => .int (h i j)))
    (hg : ∀ d e z, g d e = some z → ∃ i j, d = .int i ∧ e = .int j ∧ C i j ∧ z = .int (h i j)) : OpS c.X f c g := by
  refine ⟨_, ho, ?_⟩
  intro x y d e z H Z η ω Q w vd ve hgz q
  obtain ⟨i, j, rfl, rfl, hc, rfl⟩ := hg d e z hgz
  cases vd.int
  cases ve.int
  exact ⟨i, j, rfl, rfl, hc, q _ _ (.inr ⟨rfl, .int _, fun _ z => by cases z⟩)⟩
theorem opS_sub : OpS c.X (binaryOp .Sub) c (Py.binD .sub) := by
  refine opS_ii (C := fun _ _ => True) (h := fun i j => i - j) ?_ fun d e z hg => ?_
  · intro pins s σ H x y v u Q I rx ry ⟨i, j, e1, e2, _, q⟩
    exact op_sub pins s σ H x y v u Q I rx ry ⟨i, j, e1, e2, q⟩
  · cases d <;> cases e <;> (try (simp [Py.binD] at hg; done))
    simp only [Py.binD, Option.some.injEq] at hg
    exact ⟨_, _, rfl, rfl, trivial, hg.symm⟩
theorem opS_fdiv : OpS c.X (binaryOp .FloorDiv) c (Py.binD .fdiv) := by
  refine opS_ii (h := fun i j => i / j) op_fdivW fun d e z hg => ?_
  cases d <;> cases e <;> (try (simp [Py.binD] at hg; done))
  simp only [Py.binD] at hg
  split at hg
  case isFalse => cases hg
  case isTrue hl =>
    cases hg
    exact ⟨_, _, rfl, rfl, wide_div (b := 64) hl.1 (by have := hl.1; have := hl.2; omega) (by decide) (by decide), rfl⟩
theorem opS_mod : OpS c.X (binaryOp .Mod) c (Py.binD .mod) := by
  refine opS_ii (h := fun i j => i % j) op_mod fun d e z hg => ?_
  cases d <;> cases e <;> (try (simp [Py.binD] at hg; done))
  simp only [Py.binD] at hg
  split at hg
  case isFalse => cases hg
  case isTrue hl =>
    cases hg
    exact ⟨_, _, rfl, rfl, hl, rfl⟩
theorem small_abs {i : Int} (h : Py.small i = true) : i.natAbs < 2 ^ 64 := by
  have := small_iff.mp h
  omega
theorem opS_pow : OpS c.X (binaryOp .Pow) c (Py.binD .pow) := by
  refine opS_ii (h := fun i j => i ^ j.toNat) op_pow fun d e z hg => ?_
  cases d <;> cases e <;> (try (simp [Py.binD] at hg; done))
  simp only [Py.binD] at hg
  split at hg
  case isFalse => cases hg
  case isTrue hl =>
    cases hg
    exact ⟨_, _, rfl, rfl, ⟨hl.1, by have := hl.2.1; omega, small_abs hl.2.2⟩, rfl⟩
theorem opS_mul : OpS c.X (binaryOp .Mult) c (Py.binD .mul) := by
  refine ⟨_, op_mul.or op_rep, ?_⟩
  intro x y d e z H Z η ω Q w vd ve hg q
  cases d <;> cases e <;> (try (simp [Py.binD] at hg; done))
  case int.int i j =>
    simp only [Py.binD] at hg
    split at hg
    case isFalse => cases hg
    case isTrue hl =>
      cases hg
      cases vd.int
      cases ve.int
      refine .inl ⟨_, _, rfl, rfl, ?_, q _ _ (.inr ⟨rfl, .int _, fun _ z => by cases z⟩)⟩
      rcases Bool.or_eq_true_iff.mp hl with h | h
      · exact .inl (small_iff.mp h)
      · exact .inr (small_iff.mp h)
  case lst.int xs k =>
    simp only [Py.binD] at hg
    split at hg
    case isFalse => cases hg
    case isTrue hl =>
      cases hg
      obtain ⟨a, vs, rfl, h1, r1⟩ := vd.lst
      cases ve.int
      have hk : k ≤ 16777216 := hl.2.1
      have hk0 := hl.1
      exact .inr ⟨a, k, vs, rfl, rfl, h1, by omega, by omega, by rw [r1.length, ← lim_eq]; exact hl.2.2, fun p hp => q _ _ (.inl ⟨p, hp, .inl ⟨_, _, rfl, rfl, rfl, RepL.flat _ r1⟩⟩)⟩
theorem opS_bin (o : Py.Bop) : OpS c.X (binaryOp (opOf o)) c (Py.binD o) := by
  cases o
  · exact opS_add
  · exact opS_sub
  · exact opS_mul
  · exact opS_fdiv
  · exact opS_mod
  · exact opS_pow
end
end PyS

end
section
namespace PyS
open PySem PySem.Spec PyProof.Rows L2
/-! ### tests -/
def postB (c : Ct) (σ : L2.St) (H : Hp) (Z : Addr → Prop) (η : List Addr) (Q : Bool → Hp → Prop) (res : Py.Res Bool) : Prop := match res with
  | .ok d ω' => ∀ H' Z' η', c.Nx H Z η H' Z' η' ω' → Q d H'
  | .exc x ω' => ∀ H' Z' η' a, c.Nx H Z η H' Z' η' ω' → c.eA x = some a → c.W (.ref a) none σ H'
  | .stuck => False
def tT (c : Ct) (m : Py.Env → Py.M Bool) : TT := fun σ H Q => ∃ Z η ω r, c.Env σ r H Z η ω ∧ postB c σ H Z η Q (m r ω)
def JT (c : Ct) (e : Expr) (m : Py.Env → Py.M Bool) : Prop := PT c.X e (tT c m)
theorem PT.imp {X : Cx} {e : Expr} {t t' : TT} (h : PT X e t) (i : ∀ σ H Q, t' σ H Q → t σ H Q) : PT X e t' := ⟨fun pins s σ H Q I q => h.run pins s σ H Q I (i σ H Q q)⟩
abbrev asT (m : Py.Env → Py.M Py.D) : Py.Env → Py.M Bool := fun r => Py.bnd (m r) fun d => Py.lif (Py.tru d)
theorem tru_some {d : Py.D} {b : Bool} (h : Py.tru d = some b) : d = .bl b := by
  cases d <;> simp [Py.tru] at h
  rw [h]
/-- a test is the value's truth -/
theorem tT.toE {c : Ct} {m : Py.Env → Py.M Py.D} {σ : L2.St} {H : Hp} {Q : Bool → Hp → Prop} {k : Kd} (hk : k = .val ∨ k = .frs) (h : tT c (asT m) σ H Q) : tE c k m σ H (fun x H' => ∃ k, x = .bl k ∧ Q k H') := by
  obtain ⟨Z, η, ω, r, e, h⟩ := h
  refine ⟨Z, η, ω, r, e, ?_⟩
  unfold asT Py.bnd at h
  cases hm : m r ω with
  | stuck => simp only [hm] at h; exact h
  | exc x ω' => simp only [hm] at h; exact h
  | ok d ω' =>
    simp only [hm] at h
    intro v H' Z' η' n q
    cases ht : Py.tru d with
    | none => rw [ht] at h; exact h.elim
    | some b =>
      rw [ht] at h
      obtain rfl := tru_some ht
      have hv : c.View H' Z' η' v (.bl b) := q.view (e.step n.s n.w)
      exact ⟨b, hv.bl, h H' Z' η' n⟩
structure JB (c : Ct) (k : Kd) (e : Expr) (m : Py.Env → Py.M Py.D) : Prop where
  je : JE c k e m
  jt : JT c e (asT m)
theorem JB.of {c : Ct} {k : Kd} (hk : k = .val ∨ k = .frs) {e : Expr} {m : Py.Env → Py.M Py.D} {t : TE} (he : PE c.X e t) (ht : PT c.X e (tTest t)) (i : ∀ σ H Q, tE c k m σ H Q → t σ H Q) : JB c k e m :=
  ⟨PE.imp he i, PT.imp ht fun σ H Q h => i _ _ _ (h.toE hk)⟩
theorem JB.plain {c : Ct} {k : Kd} (hk : k = .val ∨ k = .frs) {e : Expr} {m : Py.Env → Py.M Py.D} (h : JE c k e m) (he : ∀ whole, isTrue e c.X.env whole = (do let v ← whole; standAt e.pos; holding [v] (truthy v))) : JB c k e m :=
  ⟨h, PT.imp (pt_val (show PE c.X e (tE c k m) from h) he) fun σ H Q q => q.toE hk⟩
theorem JB.weaken {c : Ct} {e : Expr} {m : Py.Env → Py.M Py.D} (h : JB c .frs e m) : JB c .val e m := ⟨h.je.weaken, h.jt⟩

/-! ### comparisons -/
section
variable {c : Ct} {k ka kb kc : Kd} {σ : L2.St} {H H1 H2 : Hp} {Q : VK} {v u : V}
def OpB (X : Cx) (f : Value → Value → Sem Value) (c : Ct) (g : Py.D → Py.D → Option Bool) : Prop :=
  ∃ r : R2, OpR X f r ∧ ∀ (x y : V) (d e : Py.D) (b : Bool) (H : Hp) (Z : Addr → Prop) (η : List Addr) (Q : VK), c.View H Z η x d → c.View H Z η y e → g d e = some b → Q (.bl b) H → r x y H Q
theorem opB_eq (hr : c.X.A.units + 65 < cLine) : OpB c.X (compareOp .Eq) c (Py.cmpD .eq) := by
  refine ⟨_, op_eqD (by omega), ?_⟩
  intro x y d e b H Z η Q vd ve hg q
  simp only [Py.cmpD] at hg
  split at hg
  case isFalse => cases hg
  case isTrue hl =>
    cases hg
    rw [Bool.and_eq_true] at hl
    obtain ⟨h1, h2⟩ := vd.dp hl.1
    obtain ⟨h3, h4⟩ := ve.dp (d := e) (by cases e <;> first | exact hl.2 | (exfalso; revert hl; simp [Py.shp]))
    refine ⟨_, _, h1, h3, h2, h4, ?_⟩
    rw [eqv_shS hl.1 hl.2]
    exact q
theorem opB_ne (hr : c.X.A.units + 65 < cLine) : OpB c.X (compareOp .NotEq) c (Py.cmpD .ne) := by
  refine ⟨_, op_neD (by omega), ?_⟩
  intro x y d e b H Z η Q vd ve hg q
  simp only [Py.cmpD] at hg
  split at hg
  case isFalse => cases hg
  case isTrue hl =>
    cases hg
    rw [Bool.and_eq_true] at hl
    obtain ⟨h1, h2⟩ := vd.dp hl.1
    obtain ⟨h3, h4⟩ := ve.dp (d := e) (by cases e <;> first | exact hl.2 | (exfalso; revert hl; simp [Py.shp]))
    refine ⟨_, _, h1, h3, h2, h4, ?_⟩
    rw [eqv_shS hl.1 hl.2]
    exact q
theorem txLt_iff : ∀ (x y : List Nat), Py.txLt x y = decide (x < y)
  | [], [] => by simp [Py.txLt]
  | [], _ :: _ => by simp [Py.txLt]
  | _ :: _, [] => by simp [Py.txLt]
  | x :: xs, y :: ys => by
    rw [Py.txLt, txLt_iff xs ys]
    simp only [List.cons_lt_cons_iff]
    by_cases h : x < y
    · simp [h]
    · rw [if_neg h]
      by_cases h2 : y < x
      · have : ¬ x = y := by omega
        simp [h, h2, this]
      · have : x = y := by omega
        simp [this]
theorem op_gt_str {X : Cx} : OpR X (compareOp .Gt) (fun x y H Q => ∃ i j, x = .str i ∧ y = .str j ∧ Q (.bl (decide (j.cps.toList < i.cps.toList))) H) := by
  intro pins s σ H x y v u Q I rx ry h
  obtain ⟨i, j, rfl, rfl, q⟩ := h
  obtain ⟨t, rfl⟩ := rx
  obtain ⟨t', rfl⟩ := ry
  exact PySem.P.gt_str (fin_bl I q rfl)
theorem opB_lt : OpB c.X (compareOp .Lt) c (Py.cmpD .lt) := by
  refine ⟨_, op_lt.or op_lt_str, ?_⟩
  intro x y d e b H Z η Q vd ve hg q
  cases d <;> cases e <;> (try (simp [Py.cmpD] at hg; done))
  · simp only [Py.cmpD, Option.some.injEq] at hg
    subst hg
    cases vd.int
    cases ve.int
    exact .inl ⟨_, _, rfl, rfl, q⟩
  · simp only [Py.cmpD, Option.some.injEq] at hg
    subst hg
    obtain ⟨rfl, _⟩ := vd.str
    obtain ⟨rfl, _⟩ := ve.str
    rw [txLt_iff] at q
    exact .inr ⟨_, _, rfl, rfl, by simpa using q⟩
theorem opB_gt : OpB c.X (compareOp .Gt) c (Py.cmpD .gt) := by
  refine ⟨_, op_gt.or op_gt_str, ?_⟩
  intro x y d e b H Z η Q vd ve hg q
  cases d <;> cases e <;> (try (simp [Py.cmpD] at hg; done))
  · simp only [Py.cmpD, Option.some.injEq] at hg
    subst hg
    cases vd.int
    cases ve.int
    exact .inl ⟨_, _, rfl, rfl, q⟩
  · simp only [Py.cmpD, Option.some.injEq] at hg
    subst hg
    obtain ⟨rfl, _⟩ := vd.str
    obtain ⟨rfl, _⟩ := ve.str
    rw [txLt_iff] at q
    exact .inr ⟨_, _, rfl, rfl, by simpa using q⟩
theorem opB_le : OpB c.X (compareOp .LtE) c (Py.cmpD .le) := by
  refine ⟨_, op_le, ?_⟩
  intro x y d e b H Z η Q vd ve hg q
  cases d <;> cases e <;> (try (simp [Py.cmpD] at hg; done))
  simp only [Py.cmpD, Option.some.injEq] at hg
  subst hg
  cases vd.int
  cases ve.int
  exact ⟨_, _, rfl, rfl, q⟩
theorem opB_ge : OpB c.X (compareOp .GtE) c (Py.cmpD .ge) := by
  refine ⟨_, op_ge, ?_⟩
  intro x y d e b H Z η Q vd ve hg q
  cases d <;> cases e <;> (try (simp [Py.cmpD] at hg; done))
  simp only [Py.cmpD, Option.some.injEq] at hg
  subst hg
  cases vd.int
  cases ve.int
  exact ⟨_, _, rfl, rfl, q⟩
def rInT (K : PySem.W.Frag) (neg : Bool) : R2 := fun x y H Q => ∃ d ds, Dp K H x d ∧ Dp K H y (.tuple ds) ∧ SeqAt.shaped d = true ∧ SeqAt.shaped (.tuple ds) = true ∧ Q (.bl (if neg then !(ds.any fun z => PyData.eqv z d) else ds.any fun z => PyData.eqv z d)) H
theorem op_inTD {X : Cx} (hu : X.A.units + 65 < cLine) : OpR X (compareOp .In) (rInT X.K false) := by
  intro pins s σ H x y v u Q I rx ry h
  obtain ⟨d, ds, hd, he, sd, se, q⟩ := h
  obtain ⟨as, r1⟩ := Dp.reads I d x v hd rx
  obtain ⟨bs, r2⟩ := Dp.reads I (.tuple ds) y u he ry
  exact SeqAt.in_tuple_reads r2 r1 (SeqAt.canLay_of_shaped se) (SeqAt.canLay_of_shaped sd) (room_in_shaped sd hu) ⟨.bl _, H, I, rfl, q⟩
theorem op_notInTD {X : Cx} (hu : X.A.units + 65 < cLine) : OpR X (compareOp .NotIn) (rInT X.K true) := by
  intro pins s σ H x y v u Q I rx ry h
  obtain ⟨d, ds, hd, he, sd, se, q⟩ := h
  obtain ⟨as, r1⟩ := Dp.reads I d x v hd rx
  obtain ⟨bs, r2⟩ := Dp.reads I (.tuple ds) y u he ry
  exact SeqAt.notIn_tuple_reads r2 r1 (SeqAt.canLay_of_shaped se) (SeqAt.canLay_of_shaped sd) (room_in_shaped sd hu) ⟨.bl _, H, I, rfl, q⟩
theorem any_toPys {x : Py.D} (hx : Py.shp 8 x = true) : ∀ {n : Nat} {ys : List Py.D}, (∀ y ∈ ys, Py.shp n y = true) → ((toPys ys).any fun z => PyData.eqv z (toPy x)) = ys.any fun y => Py.eqD y x
  | _, [], _ => rfl
  | n, y :: ys, h => by
    simp only [toPys, List.any_cons]
    rw [eqv_toPy y x n 8 (h y (by simp)) hx, any_toPys hx fun z hz => h z (by simp [hz])]
theorem in_shp {ys : List Py.D} (h : ys.all (Py.shp 8) = true) : Py.shp 9 (.lst ys) = true := h
theorem View.dp9 {K : PySem.W.Frag} {fA : Nat → Option Addr} {H : Hp} {Z : Addr → Prop} {η : List Addr} {ys : List Py.D} {v : V} (h : View K fA H Z η v (.lst ys)) (hs : ys.all (Py.shp 8) = true) : Dp K H v (.list (toPys ys)) ∧ SeqAt.shaped (.list (toPys ys)) = true := by
  have hs' : ∀ y ∈ ys, Py.shp 8 y = true := by simpa using hs
  obtain ⟨a, vs, rfl, e, rl⟩ := h.lst
  obtain ⟨h1, h2⟩ := RepL.dp _ _ 8 rl hs'
  refine ⟨.lst (.of e) h1, ?_⟩
  have := depth_toPys ys 8 hs'
  show ((PyData.list (toPys ys)).canLay0 && decide ((PyData.list (toPys ys)).depth ≤ 64)) = true
  simp only [PyData.canLay0, PyData.depth, h2, Bool.true_and]
  exact decide_eq_true (by omega)
theorem View.dp9T {K : PySem.W.Frag} {fA : Nat → Option Addr} {H : Hp} {Z : Addr → Prop} {η : List Addr} {ys : List Py.D} {v : V} (h : View K fA H Z η v (.tup ys)) (hs : ys.all (Py.shp 8) = true) : Dp K H v (.tuple (toPys ys)) ∧ SeqAt.shaped (.tuple (toPys ys)) = true := by
  have hs' : ∀ y ∈ ys, Py.shp 8 y = true := by simpa using hs
  obtain ⟨a, vs, rfl, e, rl⟩ := h.tup
  obtain ⟨h1, h2⟩ := RepL.dp _ _ 8 rl hs'
  refine ⟨.tup (.of e) h1, ?_⟩
  have := depth_toPys ys 8 hs'
  show ((PyData.tuple (toPys ys)).canLay0 && decide ((PyData.tuple (toPys ys)).depth ≤ 64)) = true
  simp only [PyData.canLay0, PyData.depth, h2, Bool.true_and]
  exact decide_eq_true (by omega)
theorem shS_of {d : Py.D} (h : Py.shp 8 d = true) : Py.shS d = true := by
  cases d <;> first | exact h | (exfalso; revert h; simp [Py.shp])
theorem opB_in (hr : c.X.A.units + 65 < cLine) : OpB c.X (compareOp .In) c (Py.cmpD .inn) := by
  refine ⟨_, (op_inD hr).or ((op_inTD hr).or op_in_sign), ?_⟩
  intro x y d e b H Z η Q vd ve hg q
  simp only [Py.cmpD] at hg
  cases e <;> (try (simp [Py.inD] at hg; done))
  case lst ys =>
    simp only [Py.inD] at hg
    split at hg
    case isFalse => cases hg
    case isTrue hl =>
      cases hg
      rw [Bool.and_eq_true] at hl
      obtain ⟨h1, h2⟩ := vd.dp (shS_of hl.1)
      obtain ⟨h3, h4⟩ := ve.dp9 hl.2
      exact .inl ⟨_, _, h1, h3, h2, h4, by rw [any_toPys hl.1 (n := 8) (by simpa using hl.2)]; exact q⟩
  case tup ys =>
    simp only [Py.inD] at hg
    split at hg
    case isFalse => cases hg
    case isTrue hl =>
      cases hg
      rw [Bool.and_eq_true] at hl
      obtain ⟨h1, h2⟩ := vd.dp (shS_of hl.1)
      obtain ⟨h3, h4⟩ := ve.dp9T hl.2
      exact .inr (.inl ⟨_, _, h1, h3, h2, h4, by rw [if_neg (by decide), any_toPys hl.1 (n := 8) (by simpa using hl.2)]; exact q⟩)
  case str t =>
    simp only [Py.inD] at hg
    split at hg
    case h_2 => cases hg
    case h_1 ch =>
      cases hg
      obtain ⟨rfl, _⟩ := vd.str
      obtain ⟨rfl, _⟩ := ve.str
      refine .inr (.inr ⟨ch, _, rfl, rfl, ?_⟩)
      rw [List.contains_eq_mem] at q
      simpa using q
theorem opB_nin (hr : c.X.A.units + 65 < cLine) : OpB c.X (compareOp .NotIn) c (Py.cmpD .nin) := by
  refine ⟨_, (op_notInD hr).or ((op_notInTD hr).or op_notIn_sign), ?_⟩
  intro x y d e b H Z η Q vd ve hg q
  simp only [Py.cmpD, Option.map_eq_some_iff] at hg
  obtain ⟨b', hg, rfl⟩ := hg
  cases e <;> (try (simp [Py.inD] at hg; done))
  case lst ys =>
    simp only [Py.inD] at hg
    split at hg
    case isFalse => cases hg
    case isTrue hl =>
      cases hg
      rw [Bool.and_eq_true] at hl
      obtain ⟨h1, h2⟩ := vd.dp (shS_of hl.1)
      obtain ⟨h3, h4⟩ := ve.dp9 hl.2
      exact .inl ⟨_, _, h1, h3, h2, h4, by rw [any_toPys hl.1 (n := 8) (by simpa using hl.2)]; exact q⟩
  case tup ys =>
    simp only [Py.inD] at hg
    split at hg
    case isFalse => cases hg
    case isTrue hl =>
      cases hg
      rw [Bool.and_eq_true] at hl
      obtain ⟨h1, h2⟩ := vd.dp (shS_of hl.1)
      obtain ⟨h3, h4⟩ := ve.dp9T hl.2
      exact .inr (.inl ⟨_, _, h1, h3, h2, h4, by rw [if_pos rfl, any_toPys hl.1 (n := 8) (by simpa using hl.2)]; exact q⟩)
  case str t =>
    simp only [Py.inD] at hg
    split at hg
    case h_2 => cases hg
    case h_1 ch =>
      cases hg
      obtain ⟨rfl, _⟩ := vd.str
      obtain ⟨rfl, _⟩ := ve.str
      refine .inr (.inr ⟨ch, _, rfl, rfl, ?_⟩)
      rw [List.contains_eq_mem] at q
      simpa using q
theorem opB_cmp (hr : c.X.A.units + 65 < cLine) (o : Py.Cop) : OpB c.X (compareOp (copOf o)) c (Py.cmpD o) := by
  cases o
  · exact opB_eq hr
  · exact opB_ne hr
  · exact opB_lt
  · exact opB_le
  · exact opB_gt
  · exact opB_ge
  · exact opB_in hr
  · exact opB_nin hr
/-- a comparison's end behind its two operands -/
theorem Mid2.cmp {g : Py.D → Py.D → Option Bool} (h : Mid2 c .val ka kb σ H Q (fun _ x y => Py.lif ((g x y).map .bl)) v u H1) {r : R2}
    (hr : ∀ (x y : V) (d e : Py.D) (b : Bool) (H : Hp) (Z : Addr → Prop) (η : List Addr) (Q : VK), c.View H Z η x d → c.View H Z η y e → g d e = some b → Q (.bl b) H → r x y H Q) : r v u H1 Q := by
  obtain ⟨Z, η, Z1, η1, ω1, r, d, e, z, en, s, vd, ve, hg, q⟩ := h.pure (g := fun x y => (g x y).map .bl)
  obtain ⟨b, hb, rfl⟩ := Option.map_eq_some_iff.mp hg
  exact hr v u d e b H1 Z1 η1 Q vd ve hb (q _ _ Z1 η1 ⟨s, en.w⟩ (.bl b))
theorem jb_cmp {op : CmpOp} {a b : Expr} {pos : Pos} {ma mb : Py.Env → Py.M Py.D} {g : Py.D → Py.D → Option Bool} (ho : OpB c.X (compareOp op) c g) (ha : JE c ka a ma) (hb : JE c kb b mb) (hm : behindInMarks op b = false) :
    JB c .val (.Compare a [op] [b] pos) (fun r => Py.bnd (ma r) fun x => Py.bnd (mb r) fun y => Py.lif ((g x y).map .bl)) := by
  obtain ⟨r, h1, h2⟩ := ho
  exact .of (.inl rfl) (pe_cmpR h1 ha hb hm) (pt_cmpR h1 ha hb hm) fun σ H Q h => tE.mono h.bnd fun x H1 hx => tE.mono hx.bnd fun y H2 hy => hy.cmp h2
/-- the middle of a chain -/
theorem Mid2.link {g : Py.D → Py.D → Option Bool} {f : Py.Env → Py.D → Py.M Py.D} (h : Mid2 c .val ka kb σ H Q (fun r x y => Py.bnd (Py.lif (g x y)) fun k => if k = true then f r y else Py.ret (.bl false)) v u H1) {r : R2}
    (hr : ∀ (x y : V) (d e : Py.D) (b : Bool) (H : Hp) (Z : Addr → Prop) (η : List Addr) (Q : VK), c.View H Z η x d → c.View H Z η y e → g d e = some b → Q (.bl b) H → r x y H Q)
    {P : V → Hp → Prop} (hp : ∀ k, (if k = true then Mid c .val kb σ H Q f u H1 else Q (.bl false) H1) → P (.bl k) H1) : r v u H1 P := by
  obtain ⟨Z, η, Z1, η1, ω1, r, d, e, en, s, vd, ve, q⟩ := h
  replace q : post c .val σ r H Z η Q (Py.bnd (Py.lif (g d e)) (fun k => if k = true then f r e else Py.ret (.bl false)) ω1) := q
  cases hg : g d e with
  | none => rw [hg] at q; exact q.elim
  | some b =>
    rw [hg] at q
    refine hr v u d e b H1 Z1 η1 _ (vd.view en) (ve.view en) hg (hp b ?_)
    cases b with
    | true =>
      rw [if_pos rfl]
      exact ⟨Z, η, Z1, η1, ω1, r, e, en, s, ve, q⟩
    | false =>
      rw [if_neg (by decide)]
      exact q _ _ Z1 η1 ⟨s, en.w⟩ (.bl false)
theorem jb_cmp2 {o1 o2 : CmpOp} {a b d : Expr} {pos : Pos} {ma mb md : Py.Env → Py.M Py.D} {g1 g2 : Py.D → Py.D → Option Bool} (h1 : OpB c.X (compareOp o1) c g1) (h2 : OpB c.X (compareOp o2) c g2) (ha : JE c ka a ma) (hb : JE c kb b mb) (hd : JE c kc d md) (hm : lastMarks [o1, o2] [b, d] = false) :
    JB c .val (.Compare a [o1, o2] [b, d] pos) (fun r => Py.bnd (ma r) fun x => Py.bnd (mb r) fun y => Py.bnd (Py.lif (g1 x y)) fun k => if k = true then Py.bnd (md r) fun z => Py.lif ((g2 y z).map .bl) else Py.ret (.bl false)) := by
  obtain ⟨r1, h1, q1⟩ := h1
  obtain ⟨r2, h2, q2⟩ := h2
  refine .of (.inl rfl) (pe_chain h1 h2 ha hb hd hm) (pt_chain h1 h2 ha hb hd hm) fun σ H Q h => tE.mono h.bnd fun x H1 hx => tE.mono hx.bnd fun y H2 hy => ?_
  refine Mid2.link (f := fun r y => Py.bnd (md r) fun z => Py.lif ((g2 y z).map .bl)) hy q1 fun k hk => ⟨k, rfl, ?_⟩
  cases k with
  | true => exact tE.mono (Mid.bnd (kb := kc) hk) fun z H4 hz => hz.cmp q2
  | false => exact hk
/-- a op1 b op2 c op3 d -/
def tChain3 (r r' r'' : R2) (ta tb tc td : TE) : TE := fun σ H Q => ta σ H fun x H1 => tb σ H1 fun y H2 => r x y H2 fun z H3 => ∃ k, z = .bl k ∧
  (if k = true then tc σ H3 fun w' H4 => r' y w' H4 fun z H5 => ∃ k, z = .bl k ∧ (if k = true then td σ H5 fun u H6 => r'' w' u H6 Q else Q (.bl false) H5) else Q (.bl false) H3)
section
variable {X : Cx} {a b d f : Expr} {ta tb td tf : TE} {pos : Pos}
theorem pe_chain3 {op op' op'' : CmpOp} {r r' r'' : R2} (ho : OpR X (compareOp op) r) (ho' : OpR X (compareOp op') r') (ho'' : OpR X (compareOp op'') r'') (ha : PE X a ta) (hb : PE X b tb) (hc : PE X d td) (hd : PE X f tf)
    (hm : lastMarks [op, op', op''] [b, d, f] = false) : PE X (.Compare a [op, op', op''] [b, d, f] pos) (tChain3 r r' r'' ta tb td tf) := by
  refine ⟨fun pins s σ H Q I h => ?_⟩
  refine Compare_chain (thn (ha.run pins s σ H _ I h) fun v s1 ⟨x, H1, I1, r1, q1⟩ => chain_link (thn (hb.run pins s1 σ H1 _ I1 q1) fun u s2 ⟨y, H2, I2, r2, q2⟩ =>
    thn (ho pins s2 σ H2 x y v u _ I2 r1 r2 q2) fun d s3 ⟨z, H3, I3, r3, k, e, q3⟩ => ?_)) hm
  subst e
  cases r3
  refine wpAny_truthy_bool ?_
  cases k with
  | false => exact ite_ff ⟨.bl false, H3, I3, rfl, q3⟩
  | true =>
    refine ite_tt (chain_link (thn (hc.run pins s3 σ H3 _ I3 q3) fun w' s4 ⟨z', H4, I4, r4, q4⟩ => thn (ho' pins s4 σ H4 y z' u w' _ I4 r2 r4 q4) fun d s5 ⟨z5, H5, I5, r5, k, e, q5⟩ => ?_))
    subst e
    cases r5
    refine wpAny_truthy_bool ?_
    cases k with
    | false => exact ite_ff ⟨.bl false, H5, I5, rfl, q5⟩
    | true => exact ite_tt (chain_last (thn (hd.run pins s5 σ H5 _ I5 q5) fun w6 s6 ⟨z6, H6, I6, r6, q6⟩ => ho'' pins s6 σ H6 z' z6 w' w6 Q I6 r4 r6 q6))
theorem pt_chain3 {op op' op'' : CmpOp} {r r' r'' : R2} (ho : OpR X (compareOp op) r) (ho' : OpR X (compareOp op') r') (ho'' : OpR X (compareOp op'') r'') (ha : PE X a ta) (hb : PE X b tb) (hc : PE X d td) (hd : PE X f tf)
    (hm : lastMarks [op, op', op''] [b, d, f] = false) : PT X (.Compare a [op, op', op''] [b, d, f] pos) (tTest (tChain3 r r' r'' ta tb td tf)) := by
  refine ⟨fun pins s σ H Q I h => ?_⟩
  refine isTrue_chain (thn (ha.run pins s σ H _ I h) fun v s1 ⟨x, H1, I1, r1, q1⟩ => test_link (thn (hb.run pins s1 σ H1 _ I1 q1) fun u s2 ⟨y, H2, I2, r2, q2⟩ =>
    thn (ho pins s2 σ H2 x y v u _ I2 r1 r2 q2) fun d s3 ⟨z, H3, I3, r3, k, e, q3⟩ => ?_)) hm
  subst e
  cases r3
  refine wpAny_truthy_bool ?_
  cases k with
  | false =>
    obtain ⟨k', e', q'⟩ := q3
    cases e'
    exact ite_ff ⟨H3, I3, q'⟩
  | true =>
    refine ite_tt (test_link (thn (hc.run pins s3 σ H3 _ I3 q3) fun w' s4 ⟨z', H4, I4, r4, q4⟩ => thn (ho' pins s4 σ H4 y z' u w' _ I4 r2 r4 q4) fun d' s5 ⟨z2, H5, I5, r5, k2, e2, q5⟩ => ?_))
    subst e2
    cases r5
    refine wpAny_truthy_bool ?_
    cases k2 with
    | false =>
      obtain ⟨k', e', q'⟩ := q5
      cases e'
      exact ite_ff ⟨H5, I5, q'⟩
    | true =>
      refine ite_tt (test_last (thn (hd.run pins s5 σ H5 _ I5 q5) fun w6 s6 ⟨z6, H6, I6, r6, q6⟩ => thn (ho'' pins s6 σ H6 z' z6 w' w6 _ I6 r4 r6 q6) fun d7 s7 ⟨z7, H7, I7, r7, k7, e7, q7⟩ => ?_))
      subst e7
      cases r7
      exact wpAny_truthy_bool ⟨H7, I7, q7⟩
end
theorem jb_cmp3 {kd : Kd} {o1 o2 o3 : CmpOp} {a b d f : Expr} {pos : Pos} {ma mb md mf : Py.Env → Py.M Py.D} {g1 g2 g3 : Py.D → Py.D → Option Bool} (h1 : OpB c.X (compareOp o1) c g1) (h2 : OpB c.X (compareOp o2) c g2) (h3 : OpB c.X (compareOp o3) c g3)
    (ha : JE c ka a ma) (hb : JE c kb b mb) (hd : JE c kc d md) (hf : JE c kd f mf) (hm : lastMarks [o1, o2, o3] [b, d, f] = false) :
    JB c .val (.Compare a [o1, o2, o3] [b, d, f] pos) (fun r => Py.bnd (ma r) fun x => Py.bnd (mb r) fun y => Py.bnd (Py.lif (g1 x y)) fun k => if k = true then
      Py.bnd (md r) fun z => Py.bnd (Py.lif (g2 y z)) fun k => if k = true then Py.bnd (mf r) fun u => Py.lif ((g3 z u).map .bl) else Py.ret (.bl false) else Py.ret (.bl false)) := by
  obtain ⟨r1, h1, q1⟩ := h1
  obtain ⟨r2, h2, q2⟩ := h2
  obtain ⟨r3, h3, q3⟩ := h3
  refine .of (.inl rfl) (pe_chain3 h1 h2 h3 ha hb hd hf hm) (pt_chain3 h1 h2 h3 ha hb hd hf hm) fun σ H Q h => tE.mono h.bnd fun x H1 hx => tE.mono hx.bnd fun y H2 hy => ?_
  refine Mid2.link (f := fun r y => Py.bnd (md r) fun z => Py.bnd (Py.lif (g2 y z)) fun k => if k = true then Py.bnd (mf r) fun u => Py.lif ((g3 z u).map .bl) else Py.ret (.bl false)) hy q1 fun k hk => ⟨k, rfl, ?_⟩
  cases k with
  | false => exact hk
  | true =>
    refine tE.mono (Mid.bnd (kb := kc) hk) fun z H4 hz => ?_
    refine Mid2.link (f := fun r z => Py.bnd (mf r) fun u => Py.lif ((g3 z u).map .bl)) hz q2 fun k hk => ⟨k, rfl, ?_⟩
    cases k with
    | false => exact hk
    | true => exact tE.mono (Mid.bnd (kb := kd) hk) fun u H6 hu => hu.cmp q3
end
end PyS

end
section
namespace PyS
open PySem PySem.Spec PyProof.Rows L2
section
variable {c : Ct} {k ka kb kc : Kd} {σ : L2.St} {H H1 H2 : Hp} {Q : VK} {v u : V}
/-! ### leaves -/
theorem tE.ret {f : Py.Env → Py.D} (hk : k = .val ∨ k = .frs) (h : tE c k (fun r => Py.ret (f r)) σ H Q) : ∃ Z η ω r, c.Env σ r H Z η ω ∧ ∀ v H' Z' η', c.Nx H Z η H' Z' η' ω → ResR c k r σ H H' Z' η' v (f r) → Q v H' := by
  obtain ⟨Z, η, ω, r, e, h⟩ := h
  exact ⟨Z, η, ω, r, e, h⟩
theorem tE.const {d : Py.D} {v : V} (h : tE c .val (fun _ => Py.ret d) σ H Q) (hr : ∀ Z η, c.Rep H Z η v d) : Q v H := by
  obtain ⟨Z, η, ω, r, e, h⟩ := h
  exact h v H Z η ⟨.refl, e.w⟩ (hr Z η)
theorem jb_int {i : Int} {j : Nat} {pos : Pos} : JB c .val (.Constant (.int i) j pos) (fun _ => Py.ret (.int i)) :=
  .plain (.inl rfl) (PE.imp pe_int fun σ H Q h => h.const fun _ _ => .int i) (fun _ => rfl)
theorem jb_bl {b : Bool} {j : Nat} {pos : Pos} : JB c .val (.Constant (.bool b) j pos) (fun _ => Py.ret (.bl b)) :=
  .plain (.inl rfl) (PE.imp pe_bl fun σ H Q h => h.const fun _ _ => .bl b) (fun _ => rfl)
theorem jb_non {j : Nat} {pos : Pos} : JB c .val (.Constant .none j pos) (fun _ => Py.ret .non) :=
  .plain (.inl rfl) (PE.imp pe_non fun σ H Q h => h.const fun _ _ => .non) (fun _ => rfl)
theorem jb_str {x : Str} {cs : List Nat} {j : Nat} {pos : Pos} (hx : x.cps.toList = cs) (hc : (cs.all fun c => decide (c < 1114112)) = true) : JB c .val (.Constant (.str x) j pos) (fun _ => Py.ret (.str cs)) :=
  .plain (.inl rfl) (PE.imp pe_str fun σ H Q h => h.const fun _ _ => by
    have e : x = ⟨cs.toArray⟩ := by rw [← hx, str_of]
    rw [e]
    exact .str _ hc) (fun _ => rfl)
theorem get_v {r : Py.Env} {i : Nat} {d : Py.D} (h : (Py.Env.get r i).val = some d) : r[i]? = some (.v d) := by
  unfold Py.Env.get at h
  rw [List.getD_eq_getElem?_getD] at h
  cases hr : r[i]? with
  | none => rw [hr] at h; cases h
  | some s =>
    rw [hr] at h
    cases s <;> simp [Py.Slot.val] at h
    rw [h]
theorem get_o {r : Py.Env} {i : Nat} {d : List Py.D} (h : (Py.Env.get r i).own = some d) : r[i]? = some (.o d) := by
  unfold Py.Env.get at h
  rw [List.getD_eq_getElem?_getD] at h
  cases hr : r[i]? with
  | none => rw [hr] at h; cases h
  | some s =>
    rw [hr] at h
    cases s <;> simp [Py.Slot.own] at h
    rw [h]
theorem jb_var {i : Nat} {x : Str} {pos : Pos} (hN : c.X.N[i]? = some x) (hv : Vis c.X.env.scope x) (hd : (x == ("__debug__" : Str)) = false) (hcd : (x == ("__classdict__" : Str)) = false) : JB c .val (.Name x pos) (fun r => Py.lif (r.get i).val) := by
  refine .plain (.inl rfl) (PE.imp (pe_var hN hv hd hcd) fun σ H Q h => ?_) (fun _ => rfl)
  obtain ⟨Z, η, ω, r, e, h⟩ := h
  replace h : post c .val σ r H Z η Q (Py.lif (Py.Env.get r i).val ω) := h
  cases hg : (Py.Env.get r i).val with
  | none => rw [hg] at h; exact h.elim
  | some d =>
    rw [hg] at h
    obtain ⟨v, h1, h2⟩ := e.sl.val i d (get_v hg)
    exact ⟨v, h1, h v H Z η ⟨.refl, e.w⟩ h2⟩
theorem je_peek {i : Nat} {x : Str} {pos : Pos} (hN : c.X.N[i]? = some x) (hv : Vis c.X.env.scope x) (hd : (x == ("__debug__" : Str)) = false) (hcd : (x == ("__classdict__" : Str)) = false) : JE c (.pk i) (.Name x pos) (fun r => Py.lif ((r.get i).own.map .lst)) := by
  refine PE.imp (pe_var hN hv hd hcd) fun σ H Q h => ?_
  obtain ⟨Z, η, ω, r, e, h⟩ := h
  replace h : post c (.pk i) σ r H Z η Q (Py.lif ((Py.Env.get r i).own.map .lst) ω) := h
  cases hg : (Py.Env.get r i).own with
  | none => rw [hg] at h; exact h.elim
  | some d =>
    rw [hg] at h
    obtain ⟨p, h1, h2⟩ := e.sl.own i d (get_o hg)
    exact ⟨.ref p, h1, h (.ref p) H Z η ⟨.refl, e.w⟩ ⟨h1, d, get_o hg, rfl⟩⟩
/-- a name of the top that holds an int, a text, a def -/
theorem jb_glob {x : Str} {v : V} {u : Value} {d : Py.D} {pos : Pos} (hg : Gl c.X x) (hm : c.X.mg x = some u) (r : RelV v u) (hd : (x == ("__debug__" : Str)) = false) (hr : ∀ H Z η, c.Rep H Z η v d) : JB c .val (.Name x pos) (fun _ => Py.ret d) :=
  .plain (.inl rfl) (PE.imp (pe_glob hg hm r hd) fun σ H Q h => h.const fun Z η => hr H Z η) (fun _ => rfl)

/-! ### one operand -/
theorem jb_neg {a : Expr} {pos : Pos} {m : Py.Env → Py.M Py.D} (ha : JE c ka a m) : JB c .val (.UnaryOp .USub a pos) (fun r => Py.bnd (m r) fun x => Py.lif ((Py.asInt x).map fun i => .int (-i))) := by
  refine .plain (.inl rfl) (PE.imp (pe_un un_neg ha) fun σ H Q h => tE.mono h.bnd fun x H1 hx => ?_) (fun _ => rfl)
  obtain ⟨Z, η, Z1, η1, ω1, r, d, y, e, s, vd, hg, q⟩ := hx.pure (g := fun x => (Py.asInt x).map fun i => .int (-i))
  cases d <;> simp [Py.asInt] at hg
  subst hg
  cases vd.int
  exact ⟨_, rfl, q _ _ Z1 η1 ⟨s, e.w⟩ (.int _)⟩
/-! ### and, or, not, a if t else b -/
theorem post.rebase {r : Py.Env} {Z Z1 : Addr → Prop} {η η1 : List Addr} {res : Py.Res Py.D} (h : post c k σ r H Z η Q res) (s : Step H Z η H1 Z1 η1) : post c k σ r H1 Z1 η1 Q res := by
  cases res with
  | stuck => exact h
  | exc x ω' => exact fun H' Z' η' a n ha => h H' Z' η' a ⟨s.trans n.s, n.w⟩ ha
  | ok d ω' => exact fun v H' Z' η' n q => h v H' Z' η' ⟨s.trans n.s, n.w⟩ (q.base s)
theorem postB.rebase {Q : Bool → Hp → Prop} {Z Z1 : Addr → Prop} {η η1 : List Addr} {res : Py.Res Bool} (h : postB c σ H Z η Q res) (s : Step H Z η H1 Z1 η1) : postB c σ H1 Z1 η1 Q res := by
  cases res with
  | stuck => exact h
  | exc x ω' => exact fun H' Z' η' a n ha => h H' Z' η' a ⟨s.trans n.s, n.w⟩ ha
  | ok d ω' => exact fun H' Z' η' n => h H' Z' η' ⟨s.trans n.s, n.w⟩
theorem tT.bnd {Q : Bool → Hp → Prop} {mk : Py.Env → Py.M Bool} {f : Py.Env → Bool → Py.M Bool} (h : tT c (fun r => Py.bnd (mk r) (f r)) σ H Q) : tT c mk σ H (fun k H1 => tT c (fun r => f r k) σ H1 Q) := by
  obtain ⟨Z, η, ω, r, e, h⟩ := h
  refine ⟨Z, η, ω, r, e, ?_⟩
  unfold Py.bnd at h
  cases hm : mk r ω with
  | stuck => simp only [hm] at h; exact h
  | exc x ω' => simp only [hm] at h; exact h
  | ok d ω' =>
    simp only [hm] at h
    exact fun H1 Z1 η1 n => ⟨Z1, η1, ω', r, e.step n.s n.w, h.rebase n.s⟩
theorem tE.bndB {mk : Py.Env → Py.M Bool} {f : Py.Env → Bool → Py.M Py.D} (h : tE c k (fun r => Py.bnd (mk r) (f r)) σ H Q) : tT c mk σ H (fun b H1 => tE c k (fun r => f r b) σ H1 Q) := by
  obtain ⟨Z, η, ω, r, e, h⟩ := h
  refine ⟨Z, η, ω, r, e, ?_⟩
  unfold Py.bnd at h
  cases hm : mk r ω with
  | stuck => simp only [hm] at h; exact h
  | exc x ω' => simp only [hm] at h; exact h
  | ok d ω' =>
    simp only [hm] at h
    exact fun H1 Z1 η1 n => ⟨Z1, η1, ω', r, e.step n.s n.w, h.rebase n.s⟩
theorem tT.mono {Q Q' : Bool → Hp → Prop} {m : Py.Env → Py.M Bool} (h : tT c m σ H Q) (i : ∀ b H1, Q b H1 → Q' b H1) : tT c m σ H Q' := by
  obtain ⟨Z, η, ω, r, e, h⟩ := h
  refine ⟨Z, η, ω, r, e, ?_⟩
  cases hm : m r ω with
  | stuck => rw [hm] at h; exact h
  | exc x ω' => rw [hm] at h; exact h
  | ok d ω' => rw [hm] at h; exact fun H' Z' η' n => i _ _ (h H' Z' η' n)
theorem tT.ret {Q : Bool → Hp → Prop} {b : Bool} (h : tT c (fun _ => Py.ret b) σ H Q) : Q b H := by
  obtain ⟨Z, η, ω, r, e, h⟩ := h
  exact h H Z η ⟨.refl, e.w⟩
theorem tE.to {k : Kd} {m m' : Py.Env → Py.M Py.D} (e : m = m') (h : tE c k m σ H Q) : tE c k m' σ H Q := e ▸ h
theorem jb_not {a : Expr} {pos : Pos} {m : Py.Env → Py.M Py.D} (ha : JB c .val a m) : JB c .val (.UnaryOp .Not a pos) (fun r => Py.bnd (m r) fun x => Py.lif ((Py.tru x).map fun b => .bl (!b))) := by
  refine ⟨PE.imp (pe_not ha.je) fun σ H Q h => tE.mono h.bnd fun x H1 hx => ?_, PT.imp (pt_not ha.jt) fun σ H Q h => ?_⟩
  · obtain ⟨Z, η, Z1, η1, ω1, r, d, y, e, s, vd, hg, q⟩ := hx.pure (g := fun x => (Py.tru x).map fun b => .bl (!b))
    cases d <;> simp [Py.tru] at hg
    subst hg
    cases vd.bl
    exact ⟨_, rfl, q _ _ Z1 η1 ⟨s, e.w⟩ (.bl _)⟩
  · have e : (asT fun r => Py.bnd (m r) fun x => Py.lif ((Py.tru x).map fun b => Py.D.bl (!b))) = fun r => Py.bnd (asT m r) fun k => Py.ret (!k) := by
      funext r
      simp only [asT, Py.bnd_bnd]
      congr 1
      funext x
      cases x <;> rfl
    rw [e] at h
    exact tT.mono h.bnd fun b H1 h => tT.ret h
structure JW (c : Ct) (op : BoolOp) (es : List Expr) (m : Py.Env → Py.M Py.D) : Prop where
  je : ∀ pos, JE c .val (.BoolOp op es pos) m
  pw : ∀ pos, PW c.X (.BoolOp op es pos) (tT c (asT m))
theorem JW.jb {op : BoolOp} {es : List Expr} {m : Py.Env → Py.M Py.D} (h : JW c op es m) (pos : Pos) : JB c .val (.BoolOp op es pos) m := ⟨h.je pos, (h.pw pos).pt⟩
theorem JW.one {op : BoolOp} {a : Expr} {m : Py.Env → Py.M Py.D} (ha : JB c .val a m) : JW c op [a] m := ⟨fun _ => pe_one ha.je, fun _ => by
  cases op with
  | And => exact pw_and1 ha.jt
  | Or => exact pw_or1 ha.jt⟩
theorem PW.imp {X : Cx} {e : Expr} {t t' : TT} (h : PW X e t) (i : ∀ σ H Q, t' σ H Q → t σ H Q) : PW X e t' := ⟨fun whole pins s σ H Q I q => h.run whole pins s σ H Q I (i σ H Q q)⟩
/-- a first operand's truth, in a value's place -/
theorem asT_if {ma m1 m2 : Py.Env → Py.M Py.D} : (asT fun r => Py.bnd (ma r) fun x => Py.bnd (Py.lif (Py.tru x)) fun k => if k = true then m1 r else m2 r) = fun r => Py.bnd (asT ma r) fun k => if k = true then asT m1 r else asT m2 r := by
  funext r
  simp only [asT, Py.bnd_bnd]
  congr 1
  funext x
  cases x <;> try rfl
  rename_i b
  cases b <;> rfl
theorem tT.if {ma m1 m2 : Py.Env → Py.M Py.D} {Q : Bool → Hp → Prop} (h : tT c (asT fun r => Py.bnd (ma r) fun x => Py.bnd (Py.lif (Py.tru x)) fun k => if k = true then m1 r else m2 r) σ H Q) :
    tT c (asT ma) σ H (fun k H1 => if k = true then tT c (asT m1) σ H1 Q else tT c (asT m2) σ H1 Q) := by
  rw [asT_if] at h
  refine tT.mono h.bnd fun b H1 h => ?_
  cases b with
  | true => exact h
  | false => exact h
theorem tE.if {ma m1 m2 : Py.Env → Py.M Py.D} (h : tE c k (fun r => Py.bnd (ma r) fun x => Py.bnd (Py.lif (Py.tru x)) fun k => if k = true then m1 r else m2 r) σ H Q) :
    tT c (asT ma) σ H (fun b H1 => if b = true then tE c k m1 σ H1 Q else tE c k m2 σ H1 Q) := by
  have e : (fun r => Py.bnd (ma r) fun x => Py.bnd (Py.lif (Py.tru x)) fun k => if k = true then m1 r else m2 r) = fun r => Py.bnd (asT ma r) fun k => if k = true then m1 r else m2 r := by
    funext r
    simp only [asT, Py.bnd_bnd]
  rw [e] at h
  refine tT.mono h.bndB fun b H1 h => ?_
  cases b with
  | true => exact h
  | false => exact h
theorem asT_bl {b : Bool} : (asT fun _ => Py.ret (Py.D.bl b)) = fun _ => Py.ret b := by
  funext r
  rfl
theorem JW.and {a b : Expr} {rest : List Expr} {ma mb : Py.Env → Py.M Py.D} (ha : JB c .val a ma) (hb : JW c .And (b :: rest) mb) :
    JW c .And (a :: b :: rest) (fun r => Py.bnd (ma r) fun x => Py.bnd (Py.lif (Py.tru x)) fun k => if k = true then mb r else Py.ret (.bl false)) := by
  refine ⟨fun pos => PE.imp (pe_and ha.je (hb.je pos)) fun σ H Q h => ?_, fun pos => PW.imp (pw_and ha.jt (hb.pw pos)) fun σ H Q h => ?_⟩
  · refine tE.mono (h.if.toE (.inl rfl)) fun x H1 ⟨b, e, h⟩ => ⟨b, e, ?_⟩
    cases b with
    | true => exact h
    | false => exact tE.const h fun _ _ => .bl false
  · refine tT.mono h.if fun b H1 h => ?_
    cases b with
    | true => exact h
    | false =>
      replace h : tT c (asT fun _ => Py.ret (Py.D.bl false)) σ H1 Q := h
      rw [asT_bl] at h
      exact h.ret
theorem JW.or {a b : Expr} {rest : List Expr} {ma mb : Py.Env → Py.M Py.D} (ha : JB c .val a ma) (hb : JW c .Or (b :: rest) mb) :
    JW c .Or (a :: b :: rest) (fun r => Py.bnd (ma r) fun x => Py.bnd (Py.lif (Py.tru x)) fun k => if k = true then Py.ret (.bl true) else mb r) := by
  refine ⟨fun pos => PE.imp (pe_or ha.je (hb.je pos)) fun σ H Q h => ?_, fun pos => PW.imp (pw_or ha.jt (hb.pw pos)) fun σ H Q h => ?_⟩
  · refine tE.mono (h.if.toE (.inl rfl)) fun x H1 ⟨b, e, h⟩ => ⟨b, e, ?_⟩
    cases b with
    | true => exact tE.const h fun _ _ => .bl true
    | false => exact h
  · refine tT.mono h.if fun b H1 h => ?_
    cases b with
    | true =>
      replace h : tT c (asT fun _ => Py.ret (Py.D.bl true)) σ H1 Q := h
      rw [asT_bl] at h
      exact h.ret
    | false => exact h
theorem pt_ifExp {X : Cx} {t a b : Expr} {pos : Pos} {tt ta tb : TT} (ht : PT X t tt) (ha : PT X a ta) (hb : PT X b tb) : PT X (.IfExp t a b pos) (fun σ H Q => tt σ H fun k H1 => if k = true then ta σ H1 Q else tb σ H1 Q) := by
  refine ⟨fun pins s σ H Q I h => ?_⟩
  show wpAny (model X.prog X.w) X.A (do if ← isTrue t X.env (eval t X.env) then isTrue a X.env (eval a X.env) else isTrue b X.env (eval b X.env)) _ _ s
  refine wpAny_bind (thn (ht.run pins s σ H _ I h) fun k s1 ⟨H1, I1, q1⟩ => ?_)
  cases k with
  | true => exact ha.run pins s1 σ H1 Q I1 q1
  | false => exact hb.run pins s1 σ H1 Q I1 q1
theorem jb_ite {t a b : Expr} {pos : Pos} {mt ma mb : Py.Env → Py.M Py.D} (ht : JB c .val t mt) (ha : JB c k a ma) (hb : JB c k b mb) :
    JB c k (.IfExp t a b pos) (fun r => Py.bnd (mt r) fun x => Py.bnd (Py.lif (Py.tru x)) fun q => if q = true then ma r else mb r) :=
  ⟨PE.imp (pe_ifExp ht.jt ha.je hb.je) fun σ H Q h => h.if, PT.imp (pt_ifExp ht.jt ha.jt hb.jt) fun σ H Q h => h.if⟩
/-! ### is, is not -/
theorem jb_isC {n : Bool} {a b : Expr} {d : Py.D} {pos : Pos} {m : Py.Env → Py.M Py.D} (ha : JE c ka a m) (hb : (d = .non ∧ ∃ j p, b = .Constant .none j p) ∨ ∃ k j p, d = .bl k ∧ b = .Constant (.bool k) j p) :
    JB c .val (.Compare a [if n = true then .IsNot else .Is] [b] pos) (fun r => Py.bnd (m r) fun x => Py.lif (Py.isCD n d x)) := by
  have view_non : ∀ {x : V} {y : Py.D} {H : Hp} {Z : Addr → Prop} {η : List Addr}, c.View H Z η x y → y ≠ .non → x ≠ .non := fun {x y H Z η} hv hn e => by
    subst e
    cases hv with
    | of h => cases h; exact hn rfl
  rcases hb with ⟨rfl, j, p, rfl⟩ | ⟨kk, j, p, rfl, rfl⟩
  · cases n with
    | false =>
      refine .of (.inl rfl) (pe_cmpR op_isN ha pe_non (by rfl)) (pt_cmpR op_isN ha pe_non (by rfl)) fun σ H Q h => tE.mono h.bnd fun x H1 hx => ?_
      obtain ⟨Z, η, Z1, η1, ω1, r, d, y, e, s, vd, hg, q⟩ := hx.pure
      refine ⟨rfl, ?_⟩
      cases d with
      | non =>
        cases vd.non
        obtain rfl := Option.some.inj hg
        exact q _ _ Z1 η1 ⟨s, e.w⟩ (.bl true)
      | exc _ => cases hg
      | _ =>
        have hne := view_non vd (by simp)
        obtain rfl := Option.some.inj hg
        rw [decide_eq_false hne]
        exact q _ _ Z1 η1 ⟨s, e.w⟩ (.bl false)
    | true =>
      refine .of (.inl rfl) (pe_cmpR op_notN ha pe_non (by rfl)) (pt_cmpR op_notN ha pe_non (by rfl)) fun σ H Q h => tE.mono h.bnd fun x H1 hx => ?_
      obtain ⟨Z, η, Z1, η1, ω1, r, d, y, e, s, vd, hg, q⟩ := hx.pure
      refine ⟨rfl, ?_⟩
      cases d with
      | non =>
        cases vd.non
        obtain rfl := Option.some.inj hg
        exact q _ _ Z1 η1 ⟨s, e.w⟩ (.bl false)
      | exc _ => cases hg
      | _ =>
        have hne := view_non vd (by simp)
        obtain rfl := Option.some.inj hg
        rw [decide_eq_false hne]
        exact q _ _ Z1 η1 ⟨s, e.w⟩ (.bl true)
  · cases n with
    | false =>
      refine .of (.inl rfl) (pe_cmpR op_isBl ha pe_bl (by rfl)) (pt_cmpR op_isBl ha pe_bl (by rfl)) fun σ H Q h => tE.mono h.bnd fun x H1 hx => ?_
      obtain ⟨Z, η, Z1, η1, ω1, r, d, y, e, s, vd, hg, q⟩ := hx.pure
      cases d <;> try (cases hg; done)
      rename_i b
      cases vd.bl
      obtain rfl := Option.some.inj hg
      refine ⟨b, kk, rfl, rfl, ?_⟩
      have e1 : decide (b = kk) = (kk == b) := by cases b <;> cases kk <;> rfl
      rw [e1]
      exact q _ _ Z1 η1 ⟨s, e.w⟩ (.bl _)
    | true =>
      refine .of (.inl rfl) (pe_cmpR op_notBl ha pe_bl (by rfl)) (pt_cmpR op_notBl ha pe_bl (by rfl)) fun σ H Q h => tE.mono h.bnd fun x H1 hx => ?_
      obtain ⟨Z, η, Z1, η1, ω1, r, d, y, e, s, vd, hg, q⟩ := hx.pure
      cases d <;> try (cases hg; done)
      rename_i b
      cases vd.bl
      obtain rfl := Option.some.inj hg
      refine ⟨b, kk, rfl, rfl, ?_⟩
      have e1 : (!decide (b = kk)) = !(kk == b) := by cases b <;> cases kk <;> rfl
      rw [e1]
      exact q _ _ Z1 η1 ⟨s, e.w⟩ (.bl _)
end
end PyS

end
section
namespace PyS
open PySem PySem.Spec PyProof.Rows L2
/-! ### argument lists -/
def ResL (c : Ct) (r : Py.Env) (σ : L2.St) (H H' : Hp) (Z' : Addr → Prop) (η' : List Addr) : List Kd → List V → List Py.D → Prop
  | [], [], [] => True
  | k :: ks, v :: vs, d :: ds => ResR c k r σ H H' Z' η' v d ∧ ResL c r σ H H' Z' η' ks vs ds
  | _, _, _ => False
/-- the new lists among results -/
def frL : List Kd → List V → List Py.D → List V
  | .frs :: ks, v :: vs, .lst _ :: ds => v :: frL ks vs ds
  | _ :: ks, _ :: vs, _ :: ds => frL ks vs ds
  | _, _, _ => []
def postA (c : Ct) (ks : List Kd) (σ : L2.St) (r : Py.Env) (H : Hp) (Z : Addr → Prop) (η : List Addr) (Q : List V → Hp → Prop) (res : Py.Res (List Py.D)) : Prop := match res with
  | .ok d ω' => ∀ v H' Z' η', c.Nx H Z η H' Z' η' ω' → ResL c r σ H H' Z' η' ks v d → (frL ks v d).Nodup → Q v H'
  | .exc x ω' => ∀ H' Z' η' a, c.Nx H Z η H' Z' η' ω' → c.eA x = some a → c.W (.ref a) none σ H'
  | .stuck => False
def tA (c : Ct) (ks : List Kd) (m : Py.Env → Py.M (List Py.D)) : TA := fun σ H Q => ∃ Z η ω r, c.Env σ r H Z η ω ∧ postA c ks σ r H Z η Q (m r ω)
def JA (c : Ct) (ks : List Kd) (es : List Expr) (m : Py.Env → Py.M (List Py.D)) : Prop := PA c.X es (tA c ks m)
theorem PA.imp {X : Cx} {e : List Expr} {t t' : TA} (h : PA X e t) (i : ∀ σ H Q, t' σ H Q → t σ H Q) : PA X e t' := ⟨fun pos pins s σ H Q I q => h.run pos pins s σ H Q I (i σ H Q q)⟩
section
variable {c : Ct} {k ka kb kc : Kd} {ks : List Kd} {σ : L2.St} {H H1 H2 : Hp} {Q : VK} {v u : V}
theorem ResL.step {r : Py.Env} {Z1 Z2 : Addr → Prop} {η1 η2 : List Addr} {ω1 : Py.Store} (w1 : c.WI H1 Z1 η1 ω1) (s : Step H1 Z1 η1 H2 Z2 η2) : ∀ {ks : List Kd} {vs : List V} {ds : List Py.D}, ResL c r σ H H1 Z1 η1 ks vs ds → ResL c r σ H H2 Z2 η2 ks vs ds
  | [], [], [], _ => trivial
  | _ :: _, _ :: _, _ :: _, ⟨a, b⟩ => ⟨a.step w1 s, ResL.step w1 s b⟩
theorem ResL.base {r : Py.Env} {Z Z1 Z2 : Addr → Prop} {η η1 η2 : List Addr} (s : Step H Z η H1 Z1 η1) : ∀ {ks : List Kd} {vs : List V} {ds : List Py.D}, ResL c r σ H1 H2 Z2 η2 ks vs ds → ResL c r σ H H2 Z2 η2 ks vs ds
  | [], [], [], _ => trivial
  | _ :: _, _ :: _, _ :: _, ⟨a, b⟩ => ⟨a.base s, ResL.base s b⟩
theorem ResL.length {r : Py.Env} {Z1 : Addr → Prop} {η1 : List Addr} : ∀ {ks : List Kd} {vs : List V} {ds : List Py.D}, ResL c r σ H H1 Z1 η1 ks vs ds → vs.length = ks.length ∧ ds.length = ks.length
  | [], [], [], _ => ⟨rfl, rfl⟩
  | _ :: _, _ :: _, _ :: _, ⟨_, b⟩ => by
    obtain ⟨h1, h2⟩ := ResL.length b
    exact ⟨by simp [h1], by simp [h2]⟩
inductive Views (c : Ct) (H : Hp) (Z : Addr → Prop) (η : List Addr) : List V → List Py.D → Prop
  | nil : Views c H Z η [] []
  | cons {v : V} {d : Py.D} {vs : List V} {ds : List Py.D} : c.View H Z η v d → Views c H Z η vs ds → Views c H Z η (v :: vs) (d :: ds)
theorem ResL.views {r : Py.Env} {Z1 : Addr → Prop} {η1 : List Addr} {ω1 : Py.Store} (e : c.Env σ r H1 Z1 η1 ω1) : ∀ {ks : List Kd} {vs : List V} {ds : List Py.D}, ResL c r σ H H1 Z1 η1 ks vs ds → Views c H1 Z1 η1 vs ds
  | [], [], [], _ => .nil
  | _ :: _, _ :: _, _ :: _, ⟨a, b⟩ => .cons (a.view e) (ResL.views e b)
def vals (n : Nat) : List Kd := List.replicate n .val
theorem ResL.rep {r : Py.Env} {Z1 : Addr → Prop} {η1 : List Addr} : ∀ {n : Nat} {vs : List V} {ds : List Py.D}, ResL c r σ H H1 Z1 η1 (vals n) vs ds → c.RepL H1 Z1 η1 vs ds
  | 0, [], [], _ => .nil
  | n + 1, v :: vs, d :: ds, h => by
    have h' : ResR c .val r σ H H1 Z1 η1 v d ∧ ResL c r σ H H1 Z1 η1 (vals n) vs ds := h
    exact .cons h'.1 (ResL.rep h'.2)
theorem ja_nil : JA c [] [] (fun _ => Py.ret []) := PA.imp pa_nil fun σ H Q ⟨Z, η, ω, r, e, h⟩ => h [] H Z η ⟨.refl, e.w⟩ trivial List.nodup_nil
theorem frL_none {r : Py.Env} {Z2 : Addr → Prop} {η2 : List Addr} : ∀ {ks : List Kd} {vs : List V} {ds : List Py.D}, ResL c r σ H1 H2 Z2 η2 ks vs ds → ∀ u ∈ frL ks vs ds, ∃ p, u = V.ref p ∧ H1 p = none
  | [], [], [], _, u, h => by simp [frL] at h
  | k :: ks, v :: vs, d :: ds, ⟨a, b⟩, u, h => by
    have ih := frL_none b
    unfold frL at h
    split at h
    · rename_i e1 e2 e3
      cases e1; cases e2; cases e3
      rcases List.mem_cons.mp h with rfl | h
      · rcases a with ⟨p, vs', ds', e1, e2, h0, _⟩ | ⟨_, hn⟩
        · exact ⟨p, e1, h0⟩
        · exact absurd rfl (hn _)
      · exact ih u h
    · rename_i e1 e2 e3
      cases e1; cases e2; cases e3
      exact ih u h
    · simp at h
theorem frL_cons {r : Py.Env} {Z1 Z2 : Addr → Prop} {η1 η2 : List Addr} {vs : List V} {d : Py.D} {ds : List Py.D} (q : ResR c k r σ H H1 Z1 η1 v d) (q2 : ResL c r σ H1 H2 Z2 η2 ks vs ds) (hd : (frL ks vs ds).Nodup) : (frL (k :: ks) (v :: vs) (d :: ds)).Nodup := by
  unfold frL
  split
  · rename_i e1 e2 e3
    cases e1; cases e2; cases e3
    refine List.nodup_cons.mpr ⟨fun hm => ?_, hd⟩
    obtain ⟨p, e1, e2⟩ := frL_none q2 _ hm
    rcases q with ⟨p', vs', ds', e3, _, _, h1, _⟩ | ⟨_, hn⟩
    · rw [e3] at e1
      cases e1
      rw [h1] at e2
      cases e2
    · exact absurd rfl (hn _)
  · rename_i e1 e2 e3
    cases e1; cases e2; cases e3
    exact hd
  · exact List.nodup_nil
theorem ja_cons {e : Expr} {es : List Expr} {m : Py.Env → Py.M Py.D} {ms : Py.Env → Py.M (List Py.D)} (he : JE c k e m) (hr : JA c ks es ms) (hs : starEach (e :: es) c.X.env = (false, eval e c.X.env) :: starEach es c.X.env) :
    JA c (k :: ks) (e :: es) (fun r => Py.bnd (m r) fun x => Py.bnd (ms r) fun xs => Py.ret (x :: xs)) := by
  refine PA.imp (pa_cons he hr hs) fun σ H Q h => ?_
  obtain ⟨Z, η, ω, r, e, h⟩ := h
  refine ⟨Z, η, ω, r, e, ?_⟩
  simp only [Py.bnd] at h
  cases hm : m r ω with
  | stuck => simp only [hm] at h; exact h
  | exc x ω' => simp only [hm] at h; exact h
  | ok d ω' =>
    simp only [hm] at h
    intro v H1 Z1 η1 n q
    refine ⟨Z1, η1, ω', r, e.step n.s n.w, ?_⟩
    cases hm : ms r ω' with
    | stuck => simp only [hm] at h; exact h
    | exc x ω2 => simp only [hm] at h; exact fun H' Z' η' a n2 ha => h H' Z' η' a (n.trans n2) ha
    | ok ds ω2 =>
      simp only [hm] at h
      intro vs H2 Z2 η2 n2 q2 hd
      exact h (v :: vs) H2 Z2 η2 (n.trans n2) ⟨q.step n.w n2.s, q2.base n.s⟩ (frL_cons q q2 hd)
/-- what lies behind an argument list -/
theorem tE.args {ms : Py.Env → Py.M (List Py.D)} {f : Py.Env → List Py.D → Py.M Py.D} (h : tE c k (fun r => Py.bnd (ms r) (f r)) σ H Q) :
    tA c ks ms σ H (fun vs H1 => ∃ Z η Z1 η1 ω1 r ds ω0, ms r ω0 = .ok ds ω1 ∧ c.Env σ r H1 Z1 η1 ω1 ∧ Step H Z η H1 Z1 η1 ∧ ResL c r σ H H1 Z1 η1 ks vs ds ∧ (frL ks vs ds).Nodup ∧ post c k σ r H Z η Q (f r ds ω1)) := by
  obtain ⟨Z, η, ω, r, e, h⟩ := h
  refine ⟨Z, η, ω, r, e, ?_⟩
  unfold Py.bnd at h
  cases hm : ms r ω with
  | stuck => simp only [hm] at h; exact h
  | exc x ω' => simp only [hm] at h; exact h
  | ok d ω' =>
    simp only [hm] at h
    intro v H1 Z1 η1 n q hd
    exact ⟨Z, η, Z1, η1, ω', r, d, ω, hm, e.step n.s n.w, n.s, q, hd, h⟩
theorem tA.mono {ms : Py.Env → Py.M (List Py.D)} {P P' : List V → Hp → Prop} (h : tA c ks ms σ H P) (i : ∀ vs H1, P vs H1 → P' vs H1) : tA c ks ms σ H P' := by
  obtain ⟨Z, η, ω, r, e, h⟩ := h
  refine ⟨Z, η, ω, r, e, ?_⟩
  cases hm : ms r ω with
  | stuck => rw [hm] at h; exact h
  | exc x ω' => rw [hm] at h; exact h
  | ok d ω' => rw [hm] at h; exact fun v H' Z' η' n q hd => i _ _ (h v H' Z' η' n q hd)
/-! ### displays -/
theorem je_tup {n : Nat} {es : List Expr} {x1 : Nat} {pos : Pos} {ms : Py.Env → Py.M (List Py.D)} (h : JA c (vals n) es ms) (hn : n ≤ 1000) : JB c .val (.Tuple es x1 pos) (fun r => Py.bnd (ms r) fun xs => Py.ret (.tup xs)) := by
  refine .plain (.inl rfl) (PE.imp (pe_tup h) fun σ H Q q => tA.mono q.args fun vs H1 ⟨Z, η, Z1, η1, ω1, r, ds, ω0, hm, e, s, rl, _, q⟩ => ?_) (fun _ => rfl)
  have hl := (ResL.length rl).1
  have hl2 : vs.length = n := by rw [hl]; exact List.length_replicate
  refine ⟨by rw [hl2, sizeLine_eq]; omega, fun p hp => ?_⟩
  have nx : c.Nx H Z η H1 Z1 η1 ω1 := ⟨s, e.w⟩
  exact q (.ref p) _ Z1 η1 (nx.new hp) (Rep.newT nx hp rl.rep)
theorem je_lst {n : Nat} {es : List Expr} {pos : Pos} {ms : Py.Env → Py.M (List Py.D)} (h : JA c (vals n) es ms) (hn : n ≤ 1000) : JB c .frs (.List es pos) (fun r => Py.bnd (ms r) fun xs => Py.ret (.lst xs)) := by
  refine .plain (.inr rfl) (PE.imp (pe_lst h) fun σ H Q q => tA.mono q.args fun vs H1 ⟨Z, η, Z1, η1, ω1, r, ds, ω0, hm, e, s, rl, _, q⟩ => ?_) (fun _ => rfl)
  have hl := (ResL.length rl).1
  have hl2 : vs.length = n := by rw [hl]; exact List.length_replicate
  refine ⟨by rw [hl2, sizeLine_eq]; omega, fun p hp => ?_⟩
  have nx : c.Nx H Z η H1 Z1 η1 ω1 := ⟨s, e.w⟩
  exact q (.ref p) _ Z1 η1 (nx.new hp) (ResR.newL nx hp rl.rep)
/-! ### items -/
def OutS (c : Ct) (H : Hp) (Z : Addr → Prop) (η : List Addr) (z : Py.D) (v : V) (H' : Hp) : Prop :=
  (∃ p, H p = none ∧ ((∃ vs ds, v = .ref p ∧ z = .lst ds ∧ H' = upd H p (.lst vs) ∧ c.RepL H Z η vs ds) ∨ (∃ vs ds, v = .ref p ∧ z = .tup ds ∧ H' = upd H p (.tup vs) ∧ c.RepL H Z η vs ds))) ∨ (H' = H ∧ c.Rep H Z η v z ∧ ∀ ds, z ≠ .lst ds)
theorem ixN_eq (n : Nat) (i : Int) : Py.ixN n i = L2.ixN n i := rfl
theorem atI_rep {vs : List V} {ds : List Py.D} {Z : Addr → Prop} {η : List Addr} {i : Int} {d : Py.D} (rl : c.RepL H Z η vs ds) (h : ((Py.ixN ds.length i).bind fun j => ds[j]?) = some d) : ∃ v, atI vs i = some v ∧ c.Rep H Z η v d := by
  obtain ⟨j, h1, h2⟩ := Option.bind_eq_some_iff.mp h
  obtain ⟨v, h3, h4⟩ := rl.get h2
  refine ⟨v, ?_, h4⟩
  unfold atI
  rw [rl.length, ← ixN_eq, h1]
  exact h3
theorem chars_ok {cs : List Nat} {c : Nat} (h : (cs.all fun c => decide (c < 1114112)) = true) (hm : c ∈ cs) : ([c].all fun c => decide (c < 1114112)) = true := by
  simp only [List.all_cons, List.all_nil, Bool.and_true]
  exact List.all_eq_true.mp h c hm
theorem jb_sub {a b : Expr} {pos : Pos} {ma mb : Py.Env → Py.M Py.D} (ha : JE c ka a ma) (hb : JE c kb b mb) (hs : PlainIx b) :
    JB c .val (.Subscript a b pos) (fun r => Py.bnd (ma r) fun x => Py.bnd (mb r) fun y => Py.lif (Py.subD x y)) := by
  refine .plain (.inl rfl) (PE.imp (pe_ix ix_seq ha hb hs) fun σ H Q h => tE.mono h.bnd fun x H1 hx => tE.mono hx.bnd fun y H2 hy => ?_) (fun _ => rfl)
  obtain ⟨Z, η, Z1, η1, ω1, r, d, e, z, en, s, vd, ve, hg, q⟩ := hy.pure
  cases d <;> cases e <;> (try (simp [Py.subD] at hg; done))
  · -- a text
    rename_i cs i
    simp only [Py.subD] at hg
    split at hg
    case isFalse => cases hg
    case isTrue hl =>
      obtain ⟨rfl, hc⟩ := vd.str
      cases ve.int
      obtain ⟨ch, h1, rfl⟩ := Option.map_eq_some_iff.mp hg
      obtain ⟨j, h2, h3⟩ := Option.bind_eq_some_iff.mp h1
      refine .inr (.inr ⟨_, _, ch, rfl, rfl, by rw [len_tx, ← lim_eq]; exact hl, ?_, q _ _ Z1 η1 ⟨s, en.w⟩ ?_⟩)
      · unfold atI
        rw [← ixN_eq, h2]
        exact h3
      · exact .str [ch] (chars_ok hc (List.mem_of_getElem? h3))
  · rename_i xs i
    obtain ⟨a, vs, rfl, h1, rl⟩ := vd.tup
    cases ve.int
    obtain ⟨v, h2, h3⟩ := atI_rep rl hg
    exact .inr (.inl ⟨a, vs, _, v, rfl, rfl, .of h1, h2, q _ _ Z1 η1 ⟨s, en.w⟩ h3⟩)
  · rename_i xs i
    obtain ⟨a, vs, rfl, h1, rl⟩ := vd.lst
    cases ve.int
    obtain ⟨v, h2, h3⟩ := atI_rep rl hg
    exact .inl ⟨a, vs, _, v, rfl, rfl, .of h1, h2, q _ _ Z1 η1 ⟨s, en.w⟩ h3⟩
  · rename_i xs i
    obtain ⟨a, vs, rfl, h1, rl⟩ := vd.scr
    cases ve.int
    obtain ⟨v, h2, h3⟩ := atI_rep rl hg
    exact .inl ⟨a, vs, _, v, rfl, rfl, h1, h2, q _ _ Z1 η1 ⟨s, en.w⟩ h3⟩
end
end PyS

end
section
namespace PyS
open PySem PySem.Spec PyProof.Rows L2
section
variable {c : Ct} {k ka kb kc : Kd} {ks : List Kd} {σ : L2.St} {H H1 H2 : Hp} {Q : VK} {v u : V}
theorem OutS.fin {r : Py.Env} {Z Z1 : Addr → Prop} {η η1 : List Addr} {ω1 : Py.Store} {z : Py.D} (e : c.Env σ r H1 Z1 η1 ω1) (s : Step H Z η H1 Z1 η1)
    (h : ∀ v' H' Z' η', c.Nx H Z η H' Z' η' ω1 → ResR c .frs r σ H H' Z' η' v' z → Q v' H') : ∀ v H', OutS c H1 Z1 η1 z v H' → Q v H' := finish e s h
/-! ### slices -/
theorem cut_eq (vs : List V) (lo hi : Option Int) : cutV vs lo hi = Py.cut vs lo hi := rfl
theorem RepL.cut {Z : Addr → Prop} {η : List Addr} {vs : List V} {ds : List Py.D} (rl : c.RepL H Z η vs ds) (lo hi : Option Int) : c.RepL H Z η (Py.cut vs lo hi) (Py.cut ds lo hi) := by
  unfold Py.cut
  rw [rl.length]
  exact (rl.drop _).take _
theorem cut_whole {α : Type} {xs : List α} {lo hi : Option Int} (h1 : Py.sIx xs.length 0 lo = 0) (h2 : Py.sIx xs.length xs.length hi = xs.length) : Py.cut xs lo hi = xs := by
  unfold Py.cut
  rw [h1, h2]
  simp
theorem cutS_eq (cs : List Nat) (lo hi : Option Int) : cutS ⟨cs.toArray⟩ lo hi = ⟨(Py.cut cs lo hi).toArray⟩ := by
  unfold cutS Py.cut
  rfl
theorem slR_all {X : Cx} : SlR X (fun x lo hi H Q => rSlL X.K x lo hi H Q ∨ (rSlA X.K x lo hi H Q ∨ rSlS x lo hi H Q)) := sl_list.or (sl_tupA.or sl_str)
theorem slc_end {d z : Py.D} {lo hi : Option Int} {Z : Addr → Prop} {η : List Addr} {K : PySem.W.Frag} (hK : K = c.X.K) (vd : c.View H Z η v d) (hg : Py.slcD d lo hi = some z) (q : ∀ v' H', OutS c H Z η z v' H' → Q v' H') :
    rSlL K v lo hi H Q ∨ (rSlA K v lo hi H Q ∨ rSlS v lo hi H Q) := by
  subst hK
  cases d <;> (try (simp [Py.slcD] at hg; done))
  case str cs =>
    simp only [Py.slcD] at hg
    split at hg
    case isFalse => cases hg
    case isTrue hl =>
      cases hg
      obtain ⟨rfl, hc⟩ := vd.str
      refine .inr (.inr ⟨_, rfl, by rw [len_tx, ← lim_eq]; exact hl, ?_⟩)
      rw [cutS_eq]
      refine q _ _ (.inr ⟨rfl, .str _ ?_, fun _ z => by cases z⟩)
      rw [List.all_eq_true] at hc ⊢
      intro x hx
      exact hc x (List.mem_of_mem_drop (List.mem_of_mem_take hx))
  case tup ds =>
    simp only [Py.slcD, Option.some.injEq] at hg
    subst hg
    obtain ⟨a, vs, rfl, h1, rl⟩ := vd.tup
    refine .inr (.inl ⟨a, vs, rfl, .of h1, fun hw => ?_, fun hw p hp => ?_⟩)
    · refine q _ _ (.inr ⟨rfl, ?_, fun _ z => by cases z⟩)
      have e : Py.cut ds lo hi = ds := by
        have hl := rl.length
        rw [hl] at hw
        exact cut_whole hw.1 hw.2
      rw [e]
      exact .tup h1 rl
    · exact q _ _ (.inl ⟨p, hp, .inr ⟨_, _, rfl, rfl, rfl, rl.cut lo hi⟩⟩)
  case lst ds =>
    simp only [Py.slcD, Option.some.injEq] at hg
    subst hg
    obtain ⟨a, vs, rfl, h1, rl⟩ := vd.lst
    exact .inl ⟨a, vs, rfl, .of h1, fun p hp => q _ _ (.inl ⟨p, hp, .inl ⟨_, _, rfl, rfl, rfl, rl.cut lo hi⟩⟩)⟩
theorem asInt_some {d : Py.D} {i : Int} (h : Py.asInt d = some i) : d = .int i := by
  cases d <;> simp [Py.asInt] at h
  rw [h]
theorem jb_slL {a lo : Expr} {p2 pos : Pos} {ma mb : Py.Env → Py.M Py.D} (ha : JE c ka a ma) (hb : JE c kb lo mb) :
    JB c .frs (.Subscript a (.Slice (some lo) none none p2) pos) (fun r => Py.bnd (ma r) fun x => Py.bnd (mb r) fun y => Py.lif ((Py.asInt y).bind fun i => Py.slcD x (some i) none)) := by
  refine .plain (.inr rfl) (PE.imp (pe_slice slR_all ha (po_some hb) po_none) fun σ H Q h => tE.mono h.bnd fun x H1 hx => tE.mono hx.bnd fun y H2 hy => ?_) (fun _ => rfl)
  obtain ⟨Z, η, Z1, η1, ω1, r, d, e, z, en, s, vd, ve, hg, q⟩ := hy.pure (g := fun x y => (Py.asInt y).bind fun i => Py.slcD x (some i) none)
  obtain ⟨i, hi, hg⟩ := Option.bind_eq_some_iff.mp hg
  obtain rfl := asInt_some hi
  exact ⟨i, ve.int, slc_end rfl vd hg (OutS.fin en s q)⟩
theorem jb_slH {a hi : Expr} {p2 pos : Pos} {ma mb : Py.Env → Py.M Py.D} (ha : JE c ka a ma) (hb : JE c kb hi mb) :
    JB c .frs (.Subscript a (.Slice none (some hi) none p2) pos) (fun r => Py.bnd (ma r) fun x => Py.bnd (mb r) fun y => Py.lif ((Py.asInt y).bind fun i => Py.slcD x none (some i))) := by
  refine .plain (.inr rfl) (PE.imp (pe_slice slR_all ha po_none (po_some hb)) fun σ H Q h => tE.mono h.bnd fun x H1 hx => tE.mono hx.bnd fun y H2 hy => ?_) (fun _ => rfl)
  obtain ⟨Z, η, Z1, η1, ω1, r, d, e, z, en, s, vd, ve, hg, q⟩ := hy.pure (g := fun x y => (Py.asInt y).bind fun i => Py.slcD x none (some i))
  obtain ⟨i, hi, hg⟩ := Option.bind_eq_some_iff.mp hg
  obtain rfl := asInt_some hi
  exact ⟨i, ve.int, slc_end rfl vd hg (OutS.fin en s q)⟩
theorem jb_slB {a lo hi : Expr} {p2 pos : Pos} {ma mb md : Py.Env → Py.M Py.D} (ha : JE c ka a ma) (hb : JE c kb lo mb) (hd : JE c kc hi md) :
    JB c .frs (.Subscript a (.Slice (some lo) (some hi) none p2) pos) (fun r => Py.bnd (ma r) fun x => Py.bnd (mb r) fun y => Py.bnd (Py.lif (Py.asInt y)) fun i => Py.bnd (md r) fun z => Py.lif ((Py.asInt z).bind fun j => Py.slcD x (some i) (some j))) := by
  refine .plain (.inr rfl) (PE.imp (pe_slice slR_all ha (po_some hb) (po_some hd)) fun σ H Q h => tE.mono h.bnd fun x H1 hx => tE.mono hx.bnd fun y H2 hy => ?_) (fun _ => rfl)
  obtain ⟨Z, η, Z1, η1, ω1, r, d, e, en, s, vd, ve, q⟩ := hy
  replace q : post c .frs σ r H Z η Q (Py.bnd (Py.lif (Py.asInt e)) (fun i => Py.bnd (md r) fun z => Py.lif ((Py.asInt z).bind fun j => Py.slcD d (some i) (some j))) ω1) := q
  cases hi : Py.asInt e with
  | none => rw [hi] at q; exact q.elim
  | some i =>
    rw [hi] at q
    obtain rfl := asInt_some hi
    have hm : Mid2 c .frs ka kb σ H Q (fun r x y => Py.bnd (md r) fun z => Py.lif ((Py.asInt z).bind fun j => Py.slcD x (some i) (some j))) x y H2 := ⟨Z, η, Z1, η1, ω1, r, d, .int i, en, s, vd, ve, q⟩
    refine ⟨i, (ve.view en).int, tE.mono (Mid2.bnd (kc := kc) hm) fun z H3 hz => ?_⟩
    obtain ⟨Z, η, Z1, η1, ω1, r, d, e, g, en, s, vd, ve, vg, q⟩ := hz
    replace q : post c .frs σ r H Z η Q (Py.lif ((Py.asInt g).bind fun j => Py.slcD d (some i) (some j)) ω1) := q
    cases hj : (Py.asInt g).bind fun j => Py.slcD d (some i) (some j) with
    | none => rw [hj] at q; exact q.elim
    | some z =>
      rw [hj] at q
      obtain ⟨j, h1, h2⟩ := Option.bind_eq_some_iff.mp hj
      obtain rfl := asInt_some h1
      exact ⟨j, (vg.view en).int, slc_end rfl (vd.view en) h2 (OutS.fin en s q)⟩
/-! ### calls of built-in functions -/
def CallS (c : Ct) (f : Value) (g : List Py.D → Option Py.D) : Prop :=
  ∃ r : List V → Hp → VK → Prop, CallR c.X f r ∧ ∀ (vs : List V) (ds : List Py.D) (z : Py.D) (H : Hp) (Z : Addr → Prop) (η : List Addr) (ω : Py.Store) (Q : VK), c.WI H Z η ω → Views c H Z η vs ds → g ds = some z → (∀ v H', OutS c H Z η z v H' → Q v H') → r vs H Q
theorem post.lif {r : Py.Env} {Z : Addr → Prop} {η : List Addr} {ω : Py.Store} {o : Option Py.D} (h : post c k σ r H Z η Q (Py.lif o ω)) : ∃ z, o = some z ∧ ∀ v' H' Z' η', c.Nx H Z η H' Z' η' ω → ResR c k r σ H H' Z' η' v' z → Q v' H' := by
  cases o with
  | none => exact h.elim
  | some z => exact ⟨z, rfl, h⟩
theorem jb_callB {x : Str} {p pos : Pos} {id : String} {e : Expr} {es : List Expr} {ms : Py.Env → Py.M (List Py.D)} {g : List Py.D → Option Py.D} (hc : CallS c (.builtin id) g) (hg : Gl c.X x) (hm : c.X.mg x = none) (hv : bootBuiltins x = some (.builtin id)) (ha : JA c ks (e :: es) ms)
    (hn : x ≠ "__name__") (hdb : (x == ("__debug__" : Str)) = false) (he : starEach (e :: es) c.X.env = (false, eval e c.X.env) :: starEach es c.X.env) (hpl : (backTo pos (starEach es c.X.env)).any (·.1) = false) :
    JB c .frs (.Call (.Name x p) (e :: es) [] pos) (fun r => Py.bnd (ms r) fun xs => Py.lif (g xs)) := by
  obtain ⟨r, h1, h2⟩ := hc
  refine .plain (.inr rfl) (PE.imp (pe_callB h1 hg hm hv ha hn hdb he hpl) fun σ H Q q => tA.mono q.args fun vs H1 ⟨Z, η, Z1, η1, ω1, r, ds, ω0, hm, en, s, rl, _, q⟩ => ?_) (fun _ => rfl)
  obtain ⟨z, hz, q⟩ := q.lif
  exact h2 vs ds z H1 Z1 η1 ω1 Q en.w (rl.views en) hz (OutS.fin en s q)
theorem jb_callTy {x : Str} {p pos : Pos} {T : String} {e : Expr} {es : List Expr} {ms : Py.Env → Py.M (List Py.D)} {g : List Py.D → Option Py.D} (hc : CallS c (.type T) g) (hg : Gl c.X x) (hm : c.X.mg x = none) (hv : bootBuiltins x = some (.type T)) (ha : JA c ks (e :: es) ms)
    (hn : x ≠ "__name__") (hdb : (x == ("__debug__" : Str)) = false) (he : starEach (e :: es) c.X.env = (false, eval e c.X.env) :: starEach es c.X.env) (hpl : (backTo pos (starEach es c.X.env)).any (·.1) = false) :
    JB c .frs (.Call (.Name x p) (e :: es) [] pos) (fun r => Py.bnd (ms r) fun xs => Py.lif (g xs)) := by
  obtain ⟨r, h1, h2⟩ := hc
  refine .plain (.inr rfl) (PE.imp (pe_callTy h1 hg hm hv ha hn hdb he hpl) fun σ H Q q => tA.mono q.args fun vs H1 ⟨Z, η, Z1, η1, ω1, r, ds, ω0, hm, en, s, rl, _, q⟩ => ?_) (fun _ => rfl)
  obtain ⟨z, hz, q⟩ := q.lif
  exact h2 vs ds z H1 Z1 η1 ω1 Q en.w (rl.views en) hz (OutS.fin en s q)
theorem Views.one {Z : Addr → Prop} {η : List Addr} {vs : List V} {d : Py.D} (h : Views c H Z η vs [d]) : ∃ v, vs = [v] ∧ c.View H Z η v d := by
  cases h with
  | cons a t => cases t; exact ⟨_, rfl, a⟩
theorem Views.two {Z : Addr → Prop} {η : List Addr} {vs : List V} {d e : Py.D} (h : Views c H Z η vs [d, e]) : ∃ v u, vs = [v, u] ∧ c.View H Z η v d ∧ c.View H Z η u e := by
  cases h with
  | cons a t => cases t with
    | cons b t => cases t; exact ⟨_, _, rfl, a, b⟩
theorem flat_out {Z : Addr → Prop} {η : List Addr} {z : Py.D} (q : ∀ v H', OutS c H Z η z v H' → Q v H') {v : V} (h : c.Rep H Z η v z) (hn : ∀ ds, z ≠ .lst ds) : Q v H := q v H (.inr ⟨rfl, h, hn⟩)
theorem cs_len : CallS c (.builtin "len") Py.lenD := by
  refine ⟨_, call_len_seq.or call_len_str, ?_⟩
  intro vs ds z H Z η ω Q w hv hg q
  unfold Py.lenD at hg
  split at hg <;> first | (cases hg; done) | skip
  · obtain ⟨v, rfl, hw⟩ := hv.one
    cases hg
    obtain ⟨a, vs, rfl, h1, rl⟩ := hw.scr
    refine .inl ⟨a, vs, rfl, .inl h1, ?_⟩
    rw [rl.length]
    exact flat_out q (.int _) fun _ z => by cases z
  · obtain ⟨v, rfl, hw⟩ := hv.one
    cases hg
    obtain ⟨a, vs, rfl, h1, rl⟩ := hw.lst
    refine .inl ⟨a, vs, rfl, .inl (.of h1), ?_⟩
    rw [rl.length]
    exact flat_out q (.int _) fun _ z => by cases z
  · obtain ⟨v, rfl, hw⟩ := hv.one
    cases hg
    obtain ⟨a, vs, rfl, h1, rl⟩ := hw.tup
    refine .inl ⟨a, vs, rfl, .inr (.of h1), ?_⟩
    rw [rl.length]
    exact flat_out q (.int _) fun _ z => by cases z
  · obtain ⟨v, rfl, hw⟩ := hv.one
    split at hg
    case isFalse => cases hg
    case isTrue hl =>
      cases hg
      obtain ⟨rfl, hc⟩ := hw.str
      refine .inr ⟨_, rfl, by rw [len_tx, ← lim_eq]; exact hl, ?_⟩
      rw [len_tx]
      exact flat_out q (.int _) fun _ z => by cases z
theorem cs_abs : CallS c (.builtin "abs") Py.absD := by
  refine ⟨_, call_abs, ?_⟩
  intro vs ds z H Z η ω Q w hv hg q
  unfold Py.absD at hg
  split at hg <;> first | (cases hg; done) | skip
  obtain ⟨v, rfl, hw⟩ := hv.one
  cases hg
  cases hw.int
  exact ⟨_, rfl, flat_out q (.int _) fun _ z => by cases z⟩
theorem cs_max2 (hc : c.X.calm = true) : CallS c (.builtin "max") Py.max2D := by
  refine ⟨_, call_max2 hc, ?_⟩
  intro vs ds z H Z η ω Q w hv hg q
  unfold Py.max2D at hg
  split at hg <;> first | (cases hg; done) | skip
  obtain ⟨v, u, rfl, hw, hu⟩ := hv.two
  cases hg
  cases hw.int
  cases hu.int
  exact ⟨_, _, rfl, flat_out q (.int _) fun _ z => by cases z⟩
theorem cs_min2 (hc : c.X.calm = true) : CallS c (.builtin "min") Py.min2D := by
  refine ⟨_, call_min2 hc, ?_⟩
  intro vs ds z H Z η ω Q w hv hg q
  unfold Py.min2D at hg
  split at hg <;> first | (cases hg; done) | skip
  obtain ⟨v, u, rfl, hw, hu⟩ := hv.two
  cases hg
  cases hw.int
  cases hu.int
  exact ⟨_, _, rfl, flat_out q (.int _) fun _ z => by cases z⟩
theorem toInts_rep {Z : Addr → Prop} {η : List Addr} : ∀ {vs : List V} {ds : List Py.D} {ns : List Int}, c.RepL H Z η vs ds → Py.toInts ds = some ns → vs = ns.map V.int ∧ ds = ns.map Py.D.int
  | _, _, _, .nil, h => by cases h; exact ⟨rfl, rfl⟩
  | v :: vs, d :: ds, ns, .cons r t, h => by
    cases d <;> simp only [Py.toInts] at h <;> try (cases h; done)
    obtain ⟨ms, h1, rfl⟩ := Option.map_eq_some_iff.mp h
    obtain ⟨e1, e2⟩ := toInts_rep t h1
    cases r
    rw [e1, e2]
    exact ⟨rfl, rfl⟩
theorem toBls_rep {Z : Addr → Prop} {η : List Addr} : ∀ {vs : List V} {ds : List Py.D} {ns : List Bool}, c.RepL H Z η vs ds → Py.toBls ds = some ns → vs = ns.map V.bl ∧ ds = ns.map Py.D.bl
  | _, _, _, .nil, h => by cases h; exact ⟨rfl, rfl⟩
  | v :: vs, d :: ds, ns, .cons r t, h => by
    cases d <;> simp only [Py.toBls] at h <;> try (cases h; done)
    obtain ⟨ms, h1, rfl⟩ := Option.map_eq_some_iff.mp h
    obtain ⟨e1, e2⟩ := toBls_rep t h1
    cases r
    rw [e1, e2]
    exact ⟨rfl, rfl⟩
theorem cs_sum (hc : c.X.calm = true) : CallS c (.builtin "sum") Py.sumD := by
  refine ⟨_, cr_sum hc, ?_⟩
  intro vs ds z H Z η ω Q w hv hg q
  unfold Py.sumD at hg
  split at hg <;> first | (cases hg; done) | skip
  obtain ⟨v, rfl, hw⟩ := hv.one
  obtain ⟨ns, h1, rfl⟩ := Option.map_eq_some_iff.mp hg
  obtain ⟨a, vs, rfl, h2, rl⟩ := hw.lst
  obtain ⟨rfl, rfl⟩ := toInts_rep rl h1
  exact ⟨a, ns, rfl, .of h2, flat_out q (.int _) fun _ z => by cases z⟩
theorem cs_any (hc : c.X.calm = true) : CallS c (.builtin "any") Py.anyD := by
  refine ⟨_, cr_any hc, ?_⟩
  intro vs ds z H Z η ω Q w hv hg q
  unfold Py.anyD at hg
  split at hg <;> first | (cases hg; done) | skip
  obtain ⟨v, rfl, hw⟩ := hv.one
  obtain ⟨ns, h1, rfl⟩ := Option.map_eq_some_iff.mp hg
  obtain ⟨a, vs, rfl, h2, rl⟩ := hw.lst
  obtain ⟨rfl, rfl⟩ := toBls_rep rl h1
  exact ⟨a, ns, rfl, .of h2, flat_out q (.bl _) fun _ z => by cases z⟩
theorem cs_all (hc : c.X.calm = true) : CallS c (.builtin "all") Py.allD := by
  refine ⟨_, cr_all hc, ?_⟩
  intro vs ds z H Z η ω Q w hv hg q
  unfold Py.allD at hg
  split at hg <;> first | (cases hg; done) | skip
  obtain ⟨v, rfl, hw⟩ := hv.one
  obtain ⟨ns, h1, rfl⟩ := Option.map_eq_some_iff.mp hg
  obtain ⟨a, vs, rfl, h2, rl⟩ := hw.lst
  obtain ⟨rfl, rfl⟩ := toBls_rep rl h1
  exact ⟨a, ns, rfl, .of h2, flat_out q (.bl _) fun _ z => by cases z⟩
theorem cs_tuple : CallS c (.type "tuple") Py.tupleD := by
  refine ⟨_, call_tuple_of, ?_⟩
  intro vs ds z H Z η ω Q w hv hg q
  unfold Py.tupleD at hg
  split at hg <;> first | (cases hg; done) | skip
  · obtain ⟨v, rfl, hw⟩ := hv.one
    cases hg
    obtain ⟨a, vs, rfl, h2, rl⟩ := hw.lst
    exact ⟨a, vs, rfl, .inl ⟨.of h2, fun p hp => q _ _ (.inl ⟨p, hp, .inr ⟨_, _, rfl, rfl, rfl, rl⟩⟩)⟩⟩
  · obtain ⟨v, rfl, hw⟩ := hv.one
    cases hg
    obtain ⟨a, vs, rfl, h2, rl⟩ := hw.tup
    exact ⟨a, vs, rfl, .inr ⟨.of h2, flat_out q (.tup h2 rl) fun _ z => by cases z⟩⟩
theorem cs_list : CallS c (.type "list") Py.listD := by
  refine ⟨_, call_list_of, ?_⟩
  intro vs ds z H Z η ω Q w hv hg q
  unfold Py.listD at hg
  split at hg <;> first | (cases hg; done) | skip
  · obtain ⟨v, rfl, hw⟩ := hv.one
    cases hg
    obtain ⟨a, vs, rfl, h2, rl⟩ := hw.lst
    exact ⟨a, vs, rfl, .inl (.of h2), fun p hp => q _ _ (.inl ⟨p, hp, .inl ⟨_, _, rfl, rfl, rfl, rl⟩⟩)⟩
  · obtain ⟨v, rfl, hw⟩ := hv.one
    cases hg
    obtain ⟨a, vs, rfl, h2, rl⟩ := hw.tup
    exact ⟨a, vs, rfl, .inr (.of h2), fun p hp => q _ _ (.inl ⟨p, hp, .inl ⟨_, _, rfl, rfl, rfl, rl⟩⟩)⟩
theorem isTy_kit {T : Py.Ty} : True := trivial
def tyName : Py.Ty → String
  | .int => "int" | .bool => "bool" | .str => "str" | .list => "list" | .tuple => "tuple"
theorem cs_isi (t : Py.Ty) {d : Py.D} {b : Bool} {v : V} {Z : Addr → Prop} {η : List Addr} (hv : c.View H Z η v d) (h : Py.isTy t d = some b) : ∃ T, TyX c.X.K H v (.type T) ∧ PySem.W.kitOne c.X.K (.type T) (.type (tyName t)) = some b := by
  cases d <;> (try (cases t <;> simp [Py.isTy] at h; done))
  · cases hv.non; exact ⟨_, .base .non, kit_ty (by cases t <;> cases h <;> decide +kernel)⟩
  · cases hv.bl; exact ⟨_, .base (.bl _), kit_ty (by cases t <;> cases h <;> decide +kernel)⟩
  · cases hv.int; exact ⟨_, .base (.int _), kit_ty (by cases t <;> cases h <;> decide +kernel)⟩
  · obtain ⟨rfl, _⟩ := hv.str; exact ⟨_, .base (.str _), kit_ty (by cases t <;> cases h <;> decide +kernel)⟩
  · obtain ⟨a, vs, rfl, h1, _⟩ := hv.tup; exact ⟨_, .base (.tup h1), kit_ty (by cases t <;> cases h <;> decide +kernel)⟩
  · obtain ⟨a, vs, rfl, h1, _⟩ := hv.lst; exact ⟨_, .base (.lst h1), kit_ty (by cases t <;> cases h <;> decide +kernel)⟩
theorem jb_isi {x : Str} {t : Py.Ty} {p p2 pos : Pos} {a : Expr} {m : Py.Env → Py.M Py.D} (ha : JE c ka a m) (hg : Gl c.X "isinstance") (hm : c.X.mg "isinstance" = none) (hx : x = Str.ofString (tyName t)) (hgx : Gl c.X x) (hmx : c.X.mg x = none)
    (he : starEach [a, .Name x p2] c.X.env = (false, eval a c.X.env) :: starEach [.Name x p2] c.X.env) :
    JB c .val (.Call (.Name "isinstance" p) [a, .Name x p2] [] pos) (fun r => Py.bnd (m r) fun x => Py.lif ((Py.isTy t x).map .bl)) := by
  have hv : bootBuiltins x = some (.type (tyName t)) := by subst hx; cases t <;> decide +kernel
  have pt : PE c.X (.Name x p2) (tC (.ty (tyName t))) := pe_bltn hgx hmx hv rfl (by subst hx; cases t <;> decide) (by subst hx; cases t <;> decide)
  refine .plain (.inl rfl) (PE.imp (pe_callB call_isi hg hm boot_isinstance (pa_cons ha (pa_cons pt pa_nil) he) (by decide) (by decide) he (by rfl)) fun σ H Q q => tE.mono q.bnd fun v H1 hx => ?_) (fun _ => rfl)
  obtain ⟨Z, η, Z1, η1, ω1, r, d, y, e, s, vd, hg, q⟩ := hx.pure (g := fun x => (Py.isTy t x).map .bl)
  obtain ⟨b, h1, rfl⟩ := Option.map_eq_some_iff.mp hg
  obtain ⟨T, h2, h3⟩ := cs_isi t vd h1
  exact ⟨v, _, _, _, b, rfl, .ty _, h2, h3, q _ _ Z1 η1 ⟨s, e.w⟩ (.bl b)⟩
end
end PyS

end
section
namespace PyS
open PySem PySem.Spec PyProof.Rows L2
/-! ### a call of a def of the top -/
def spF (K : PySem.W.Frag) (fA eA : Nat → Option Addr) (np : Nat) (m : List Py.D → Py.M Py.D) : Sp := fun vs H Q E => vs.length = np ∧ ∃ Z η ω ds, WInv K fA H Z η ω ∧ RepL K fA H Z η vs ds ∧ match m ds ω with
  | .ok d ω' => ∀ v H' Z' η', Step H Z η H' Z' η' → WInv K fA H' Z' η' ω' → Rep K fA H' Z' η' v d → Q v H'
  | .exc x ω' => ∀ H' Z' η' a, Step H Z η H' Z' η' → WInv K fA H' Z' η' ω' → eA x = some a → E (.ref a) none H'
  | .stuck => False
section
variable {c : Ct} {k ka kb kc : Kd} {ks : List Kd} {σ : L2.St} {H H1 H2 : Hp} {Q : VK} {v u : V}
section
variable {X : Cx} {CX : CXT} {j : Nat} {f : Addr} {fd : FuncData} {ps : List Str} {sp : Sp} {E : L2.St → XK} {x : Str} {p pos : Pos}
theorem pe_callS0 (F : FnOk X.prog X.w X.K X.mg X.base CX j f fd ps sp) (hr : Room j X.A) (hg : Gl X x) (hm : X.mg x = some (.ref f)) (hk : PySem.W.keepIn X.K (.ref f) = true) (hb : Binds X.K fd ps []) (hx : ∀ σ, PassesAt CX X σ (E σ))
    (hdb : (x == ("__debug__" : Str)) = false) : PE X (.Call (.Name x p) [] [] pos) (tCallS sp E tNil) := by
  refine ⟨fun pins s σ H Q I h => ?_⟩
  refine wpAny_Call_Name_kw (ld_glob I hg hm ?_ hdb)
  exact PySem.W.callWith_K0 I.kIn hk (run_fnS (us := []) F hr hb (hx σ) I .nil h)
end
theorem call_end {n : Nat} {m : List Py.D → Py.M Py.D} {ms : Py.Env → Py.M (List Py.D)} (h : tE c .val (fun r => Py.bnd (ms r) fun xs => m xs) σ H Q) :
    tA c (vals n) ms σ H (fun vs H1 => spF c.X.K c.fA c.eA n m vs H1 Q (WE c.W σ)) := by
  refine tA.mono h.args fun vs H1 ⟨Z, η, Z1, η1, ω1, r, ds, ω0, hm, e, s, rl, _, q⟩ => ?_
  refine ⟨by rw [(ResL.length rl).1]; exact List.length_replicate, Z1, η1, ω1, ds, e.w, rl.rep, ?_⟩
  cases hmm : m ds ω1 with
  | stuck => rw [hmm] at q; exact q
  | exc x ω' => rw [hmm] at q; exact fun H' Z' η' a st w ha => q H' Z' η' a ⟨s.trans st, w⟩ ha
  | ok d ω' => rw [hmm] at q; exact fun v H' Z' η' st w r => q v H' Z' η' ⟨s.trans st, w⟩ r
theorem jb_call {j n : Nat} {f : Addr} {fd : FuncData} {ps : List Str} {x : Str} {p pos : Pos} {e : Expr} {es : List Expr} {ms : Py.Env → Py.M (List Py.D)} {m : List Py.D → Py.M Py.D}
    (F : FnOk c.X.prog c.X.w c.X.K c.X.mg c.X.base (L2.CX c.X.prog c.X.w) j f fd ps (spF c.X.K c.fA c.eA n m)) (hr : Room j c.X.A) (hg : Gl c.X x) (hm : c.X.mg x = some (.ref f)) (hk : PySem.W.keepIn c.X.K (.ref f) = true) (hb : Binds c.X.K fd ps []) (tk : Takes c.X c.W)
    (ha : JA c (vals n) (e :: es) ms) (hdb : (x == ("__debug__" : Str)) = false) (he : starEach (e :: es) c.X.env = (false, eval e c.X.env) :: starEach es c.X.env) (hpl : (backTo pos (starEach es c.X.env)).any (·.1) = false) :
    JB c .val (.Call (.Name x p) (e :: es) [] pos) (fun r => Py.bnd (ms r) fun xs => m xs) :=
  .plain (.inl rfl) (PE.imp (pe_callS F hr hg hm hk hb (passAt tk) ha hdb he hpl) fun σ H Q h => call_end h) (fun _ => rfl)
theorem jb_call0 {j : Nat} {f : Addr} {fd : FuncData} {ps : List Str} {x : Str} {p pos : Pos} {m : List Py.D → Py.M Py.D}
    (F : FnOk c.X.prog c.X.w c.X.K c.X.mg c.X.base (L2.CX c.X.prog c.X.w) j f fd ps (spF c.X.K c.fA c.eA 0 m)) (hr : Room j c.X.A) (hg : Gl c.X x) (hm : c.X.mg x = some (.ref f)) (hk : PySem.W.keepIn c.X.K (.ref f) = true) (hb : Binds c.X.K fd ps []) (tk : Takes c.X c.W)
    (hdb : (x == ("__debug__" : Str)) = false) : JB c .val (.Call (.Name x p) [] [] pos) (fun r => Py.bnd (Py.ret []) fun xs => m xs) :=
  .plain (.inl rfl) (PE.imp (pe_callS0 F hr hg hm hk hb (passAt tk) hdb) fun σ H Q h => by
    have q := call_end (n := 0) h
    obtain ⟨Z, η, ω, r, e, q⟩ := q
    exact q [] H Z η ⟨.refl, e.w⟩ trivial List.nodup_nil) (fun _ => rfl)
end
/-! ### what stands still while statements run -/
structure Grow (H : Hp) (Z : Addr → Prop) (η : List Addr) (H' : Hp) (Z' : Addr → Prop) (η' : List Addr) : Prop where
  keep : ∀ b o, H b = some o → (Z b ∨ ∃ xs, o = .tup xs) → H' b = some o
  zz : ∀ b, Z b → Z' b
  eta : ∃ l, η' = η ++ l
theorem Grow.refl {H : Hp} {Z : Addr → Prop} {η : List Addr} : Grow H Z η H Z η := ⟨fun _ _ h _ => h, fun _ h => h, [], by simp⟩
theorem Grow.trans {H H1 H2 : Hp} {Z Z1 Z2 : Addr → Prop} {η η1 η2 : List Addr} (a : Grow H Z η H1 Z1 η1) (b : Grow H1 Z1 η1 H2 Z2 η2) : Grow H Z η H2 Z2 η2 := by
  refine ⟨fun c o h z => b.keep c o (a.keep c o h z) (z.imp (a.zz c) id), fun c h => b.zz c (a.zz c h), ?_⟩
  obtain ⟨l, rfl⟩ := a.eta
  obtain ⟨l', rfl⟩ := b.eta
  exact ⟨l ++ l', by simp⟩
theorem Step.grow {K : PySem.W.Frag} {fA : Nat → Option Addr} {H H' : Hp} {Z Z' : Addr → Prop} {η η' : List Addr} {ω : Py.Store} (s : Step H Z η H' Z' η') (w : WInv K fA H Z η ω) : Grow H Z η H' Z' η' :=
  ⟨fun b o h z => by
    rcases z with z | ⟨xs, rfl⟩
    · exact s.keep b o h (w.zη b z)
    · exact s.tups b xs h, s.zz, let ⟨l, e, _⟩ := s.eta; ⟨l, e⟩⟩
theorem Grow.rep {K : PySem.W.Frag} {fA : Nat → Option Addr} {H H' : Hp} {Z Z' : Addr → Prop} {η η' : List Addr} {v : V} {d : Py.D} (s : Grow H Z η H' Z' η') (r : Rep K fA H Z η v d) : Rep K fA H' Z' η' v d := r.mono s.keep s.zz s.eta
theorem Grow.repL {K : PySem.W.Frag} {fA : Nat → Option Addr} {H H' : Hp} {Z Z' : Addr → Prop} {η η' : List Addr} {v : List V} {d : List Py.D} (s : Grow H Z η H' Z' η') (r : RepL K fA H Z η v d) : RepL K fA H' Z' η' v d := r.mono s.keep s.zz s.eta

/-! ### slots stored -/
section
variable {c : Ct} {σ : L2.St} {r : Py.Env} {H H1 : Hp} {Z Z1 : Addr → Prop} {η η1 : List Addr} {ω ω1 : Py.Store} {v : V} {d : Py.D} {i : Nat}
theorem get_set {α : Type} {l : List α} {i j : Nat} {x y : α} (h : (l.set i x)[j]? = some y) : (j = i ∧ i < l.length ∧ y = x) ∨ (j ≠ i ∧ l[j]? = some y) := by
  by_cases e : j = i
  · subst e
    by_cases hl : j < l.length
    · rw [List.getElem?_set_self hl] at h
      exact .inl ⟨rfl, hl, (Option.some.inj h).symm⟩
    · rw [List.getElem?_eq_none (by simpa using hl)] at h
      cases h
  · rw [List.getElem?_set_ne (Ne.symm e)] at h
    exact .inr ⟨e, h⟩
theorem Ct.Env.setV (e : c.Env σ r H Z η ω) (q : c.Rep H Z η v d) : c.Env (σ.set i (some v)) (r.set i (.v d)) H Z η ω := by
  refine ⟨e.w, e.s0, ⟨by simpa using e.sl.len, fun j d' h => ?_, fun j ds h => ?_, fun j l ds es p h1 h2 h3 h4 => ?_, fun j n h => by
    rcases get_set h with ⟨rfl, hl, e1⟩ | ⟨hn, h⟩
    · cases e1
    · obtain ⟨a, h1, h2⟩ := e.sl.xs j n h
      exact ⟨a, h1, by rw [List.getElem?_set_ne (Ne.symm hn)]; exact h2⟩⟩⟩
  · rcases get_set h with ⟨rfl, hl, e1⟩ | ⟨hn, h⟩
    · cases e1
      exact ⟨v, by rw [List.getElem?_set_self (by rw [← e.sl.len]; exact hl)], q⟩
    · obtain ⟨u, h1, h2⟩ := e.sl.val j d' h
      exact ⟨u, by rw [List.getElem?_set_ne (Ne.symm hn)]; exact h1, h2⟩
  · rcases get_set h with ⟨rfl, hl, e1⟩ | ⟨hn, h⟩
    · cases e1
    · obtain ⟨p, h1, h2⟩ := e.sl.own j ds h
      exact ⟨p, by rw [List.getElem?_set_ne (Ne.symm hn)]; exact h1, h2⟩
  · rcases get_set h1 with ⟨rfl, hl, e1⟩ | ⟨hn, h1⟩
    · cases e1
    · rcases get_set h2 with ⟨rfl, hl, e1⟩ | ⟨hn2, h2⟩
      · cases e1
      · rw [List.getElem?_set_ne (Ne.symm hn)] at h3
        rw [List.getElem?_set_ne (Ne.symm hn2)] at h4
        exact e.sl.apart j l ds es p h1 h2 h3 h4
/-- a slot forgotten -/
theorem Ct.Env.setN (e : c.Env σ r H Z η ω) {o : Option V} : c.Env (σ.set i o) (r.set i .none) H Z η ω := by
  refine ⟨e.w, e.s0, ⟨by simpa using e.sl.len, fun j d' h => ?_, fun j ds h => ?_, fun j l ds es p h1 h2 h3 h4 => ?_, fun j n h => by
    rcases get_set h with ⟨rfl, hl, e1⟩ | ⟨hn, h⟩
    · cases e1
    · obtain ⟨a, h1, h2⟩ := e.sl.xs j n h
      exact ⟨a, h1, by rw [List.getElem?_set_ne (Ne.symm hn)]; exact h2⟩⟩⟩
  · rcases get_set h with ⟨rfl, hl, e1⟩ | ⟨hn, h⟩
    · cases e1
    · obtain ⟨u, h1, h2⟩ := e.sl.val j d' h
      exact ⟨u, by rw [List.getElem?_set_ne (Ne.symm hn)]; exact h1, h2⟩
  · rcases get_set h with ⟨rfl, hl, e1⟩ | ⟨hn, h⟩
    · cases e1
    · obtain ⟨p, h1, h2⟩ := e.sl.own j ds h
      exact ⟨p, by rw [List.getElem?_set_ne (Ne.symm hn)]; exact h1, h2⟩
  · rcases get_set h1 with ⟨rfl, hl, e1⟩ | ⟨hn, h1⟩
    · cases e1
    · rcases get_set h2 with ⟨rfl, hl, e1⟩ | ⟨hn2, h2⟩
      · cases e1
      · rw [List.getElem?_set_ne (Ne.symm hn)] at h3
        rw [List.getElem?_set_ne (Ne.symm hn2)] at h4
        exact e.sl.apart j l ds es p h1 h2 h3 h4
/-- a slot that owns a list p which no other slot owns -/
theorem Ct.Env.setO {p : Addr} {ds : List Py.D} (e : c.Env σ r H Z η ω) (q : OwnAt c.X.K c.fA c.H0 H Z η p ds) (ha : ∀ j es, j ≠ i → r[j]? = some (.o es) → σ[j]? ≠ some (some (.ref p))) : c.Env (σ.set i (some (.ref p))) (r.set i (.o ds)) H Z η ω := by
  refine ⟨e.w, e.s0, ⟨by simpa using e.sl.len, fun j d' h => ?_, fun j ds' h => ?_, fun j l ds' es p' h1 h2 h3 h4 => ?_, fun j n h => by
    rcases get_set h with ⟨rfl, hl, e1⟩ | ⟨hn, h⟩
    · cases e1
    · obtain ⟨a, h1, h2⟩ := e.sl.xs j n h
      exact ⟨a, h1, by rw [List.getElem?_set_ne (Ne.symm hn)]; exact h2⟩⟩⟩
  · rcases get_set h with ⟨rfl, hl, e1⟩ | ⟨hn, h⟩
    · cases e1
    · obtain ⟨u, h1, h2⟩ := e.sl.val j d' h
      exact ⟨u, by rw [List.getElem?_set_ne (Ne.symm hn)]; exact h1, h2⟩
  · rcases get_set h with ⟨rfl, hl, e1⟩ | ⟨hn, h⟩
    · cases e1
      exact ⟨p, by rw [List.getElem?_set_self (by rw [← e.sl.len]; exact hl)], q⟩
    · obtain ⟨p, h1, h2⟩ := e.sl.own j ds' h
      exact ⟨p, by rw [List.getElem?_set_ne (Ne.symm hn)]; exact h1, h2⟩
  · rcases get_set h1 with ⟨e0, hl, e1⟩ | ⟨hn, k1⟩
    · rcases get_set h2 with ⟨e3, hl2, e2⟩ | ⟨hn2, k2⟩
      · rw [e0, e3]
      · rw [e0, List.getElem?_set_self (by rw [← e.sl.len]; exact hl)] at h3
        rw [List.getElem?_set_ne (Ne.symm hn2)] at h4
        cases h3
        exact absurd h4 (ha l es hn2 k2)
    · rw [List.getElem?_set_ne (Ne.symm hn)] at h3
      rcases get_set h2 with ⟨e3, hl2, e2⟩ | ⟨hn2, k2⟩
      · rw [e3, List.getElem?_set_self (by rw [← e.sl.len]; exact hl2)] at h4
        cases h4
        exact absurd h3 (ha j ds' hn k1)
      · rw [List.getElem?_set_ne (Ne.symm hn2)] at h4
        exact e.sl.apart j l ds' es p' k1 k2 h3 h4
end
/-! ### targets -/
def gNs : List Nat → TGs
  | [] => gNil
  | i :: is => gCons (gName i) (gNs is)
def gOf (K : PySem.W.Frag) : Py.Tgt → TG
  | .nm i => gName i
  | .tp is => gTup K is.length (gNs is)
def tgtIs : Py.Tgt → List Nat
  | .nm i => [i]
  | .tp is => is
section
variable {c : Ct} {σ : L2.St} {r r' : Py.Env} {H : Hp} {Z : Addr → Prop} {η : List Addr} {ω : Py.Store}
theorem setAll_len : ∀ {is : List Nat} {ds : List Py.D} {r r' : Py.Env}, Py.setAll r is ds = some r' → is.length = ds.length
  | [], [], _, _, _ => rfl
  | [], _ :: _, _, _, h => by cases h
  | _ :: _, [], _, _, h => by cases h
  | i :: is, d :: ds, r, r', h => by
    have := setAll_len (is := is) (ds := ds) (r := r.set i (.v d)) (r' := r') h
    simp [this]
theorem tus : ∀ {is : List Nat} {vs : List V} {ds : List Py.D} {σ : L2.St} {r r' : Py.Env} {Q : L2.St → Hp → Prop}, c.Env σ r H Z η ω → c.RepL H Z η vs ds → Py.setAll r is ds = some r' →
    (∀ σ', c.Env σ' r' H Z η ω → (∀ (i : Nat), i ∉ is → σ'[i]? = σ[i]?) → σ'.length = σ.length → Q σ' H) → gNs is vs σ H Q
  | [], vs, ds, σ, r, r', Q, e, q, hs, h => by
    cases ds with
    | cons _ _ => cases hs
    | nil =>
      cases q
      cases hs
      exact ⟨rfl, h _ e (fun _ _ => rfl) rfl⟩
  | i :: is, vs, ds, σ, r, r', Q, e, q, hs, h => by
    cases q with
    | nil => cases hs
    | cons q1 q2 =>
      refine ⟨_, _, rfl, tus (Ct.Env.setV e q1) q2 hs fun σ' e' k l => h σ' e' (fun j hj => ?_) (by rw [l]; simp)⟩
      rw [k j (fun z => hj (by simp [z])), List.getElem?_set_ne (fun z => hj (by simp [z]))]
/-- a target stores what bindT stores -/
theorem tu {t : Py.Tgt} {v : V} {d : Py.D} {Q : L2.St → Hp → Prop} (e : c.Env σ r H Z η ω) (q : c.Rep H Z η v d) (hb : Py.bindT r t d = some r')
    (h : ∀ σ', c.Env σ' r' H Z η ω → (∀ (i : Nat), i ∉ tgtIs t → σ'[i]? = σ[i]?) → σ'.length = σ.length → Q σ' H) : gOf c.X.K t v σ H Q := by
  cases t with
  | nm i =>
    cases hb
    exact h _ (Ct.Env.setV e q) (fun j hj => by rw [List.getElem?_set_ne (fun z => hj (by simp [tgtIs, z]))]) (by simp)
  | tp is =>
    cases d <;> (try (simp [Py.bindT] at hb; done))
    rename_i ds
    cases (show PyS.Rep c.X.K c.fA H Z η v (.tup ds) from q) with
    | tup h1 rl => exact ⟨_, _, rfl, .of h1, by rw [rl.length]; exact (setAll_len hb).symm, tus e rl hb h⟩
end
theorem pg_names {X : Cx} (hN : X.N.Nodup) : ∀ {es : List Expr} {is : List Nat}, (∀ (k : Nat) e, es[k]? = some e → ∃ i x pos, is[k]? = some i ∧ e = .Name x pos ∧ X.N[i]? = some x ∧ Loc X.env.scope x ∧ (X.fn x = true ∨ X.env.scope.names.lookup x = some .local)) → es.length = is.length → PGs X es (gNs is)
  | [], [], _, _ => pgs_nil
  | [], _ :: _, _, h => by cases h
  | _ :: _, [], _, h => by cases h
  | e :: es, i :: is, h, hl => by
    obtain ⟨i', x, pos, e1, rfl, hi, hx, hf⟩ := h 0 e rfl
    cases e1
    exact pgs_cons (pg_name hN hi hx hf) (pg_names hN (fun k e q => h (k + 1) e q) (by simpa using hl))
end PyS

end
section
namespace PyS
open PySem PySem.Spec PyProof.Rows L2
/-! ### what is walked -/
def iSeq (K : PySem.W.Frag) (tl : TE) : TI := fun σ H R => tl σ H fun x H1 => (∃ a xs, x = .ref a ∧ SqL K H1 a xs ∧ (xs.length ≤ sizeLine → R (Itl K a) H1)) ∨ (∃ a xs, x = .ref a ∧ SqT K H1 a xs ∧ (xs.length ≤ sizeLine → R (Itt K a) H1)) ∨ ∃ z, x = .str z ∧ R (Its z) H1
theorem pi_seq {X : Cx} {tg l : Expr} {tl : TE} (hl : PE X l tl) : PI X tg l (iSeq X.K tl) := by
  refine ⟨fun pins s σ H R I h => ?_⟩
  refine thn (hl.run pins s σ H _ I h) fun v s1 ⟨x, H1, I1, r1, q1⟩ => ?_
  rcases q1 with ⟨a, xs, e, hq, q⟩ | ⟨a, xs, e, hq, q⟩ | ⟨z, e, q⟩
  · subst e
    cases r1
    obtain ⟨its, rv, p, hz⟩ := I1.list hq
    refine wpAny_pyIter_list p.isList ?_
    refine ⟨s1.heap.objs.size, [s1.heap.objs.size], _, _, H1, rfl, I1.kept (t' := s1.toks) fun b o e => Heap.get?_push_of_some _ e, turn_list a _, ⟨_, Heap.get?_push_size _ rfl, rfl, rfl⟩, fun b hb => ?_, q hz⟩
    have e : b = s1.heap.objs.size := by simpa using hb
    subst e
    exact I1.fpOk (Nat.le_refl _) (I1.hok.fresh (Nat.le_refl _))
  · subst e
    cases r1
    obtain ⟨its, rv, p, hz⟩ := I1.tuple hq
    refine wpAny_pyIter_tuple (show s1.heap.IsTuple a its.toArray from p) ?_
    refine ⟨s1.heap.objs.size, [s1.heap.objs.size], _, _, H1, rfl, I1.kept (t' := s1.toks) fun b o e => Heap.get?_push_of_some _ e, turn_tuple a _, ⟨_, Heap.get?_push_size _ rfl, rfl, rfl⟩, fun b hb => ?_, q hz⟩
    have e : b = s1.heap.objs.size := by simpa using hb
    subst e
    exact I1.fpOk (Nat.le_refl _) (I1.hok.fresh (Nat.le_refl _))
  · subst e
    obtain ⟨t, rfl⟩ := r1
    cases ha : z.cps.all (· < 128)
    · exact wpAny_pyIter_wide ha (pi_one (tk := s1.toks) I1 _ (turn_str _ z t "str_iterator" (.inr rfl)) ⟨_, Heap.get?_push_size _ rfl, rfl, rfl⟩ q)
    · exact wpAny_pyIter_ascii ha (pi_one (tk := s1.toks) I1 _ (turn_str _ z t "str_ascii_iterator" (.inl rfl)) ⟨_, Heap.get?_push_size _ rfl, rfl, rfl⟩ q)
mutual
theorem Rep.write {K : PySem.W.Frag} {fA : Nat → Option Addr} {H : Hp} {Z : Addr → Prop} {η : List Addr} {p : Addr} {us : List V} {o : HO} (hp : H p = some (.lst us)) (nz : ¬ Z p) : ∀ {v : V} {d : Py.D}, Rep K fA H Z η v d → Rep K fA (upd H p o) Z η v d
  | _, _, .non => .non
  | _, _, .bl b => .bl b
  | _, _, .int i => .int i
  | _, _, .str cs h => .str cs h
  | _, _, .tup h r => .tup (by rw [upd_ne (ne_of h hp (by intro z; cases z))]; exact h) (RepL.write hp nz r)
  | _, _, .lst z h r => .lst z (by rw [upd_ne (by rintro rfl; exact nz z)]; exact h) (RepL.write hp nz r)
  | _, _, .scr h r => .scr (by
      rcases h with ⟨z, h | ⟨o, h⟩⟩ | h
      · exact .inl ⟨z, .inl (by rw [upd_ne (by rintro rfl; exact nz z)]; exact h)⟩
      · exact .inl ⟨z, .inr ⟨o, by rw [upd_ne (by rintro rfl; exact nz z)]; exact h⟩⟩
      · exact .inr h) (RepL.write hp nz r)
  | _, _, .fn h => .fn h
  | _, _, .loc h => .loc h
theorem RepL.write {K : PySem.W.Frag} {fA : Nat → Option Addr} {H : Hp} {Z : Addr → Prop} {η : List Addr} {p : Addr} {us : List V} {o : HO} (hp : H p = some (.lst us)) (nz : ¬ Z p) : ∀ {vs : List V} {ds : List Py.D}, RepL K fA H Z η vs ds → RepL K fA (upd H p o) Z η vs ds
  | _, _, .nil => .nil
  | _, _, .cons r t => .cons (Rep.write hp nz r) (RepL.write hp nz t)
end
/-- J gives the data ds, one a turn, as long as what it walks stands (P); S: what of it may be written by its owner -/
structure ItOkP (c : Ct) (fz : Bool) (J : It) (ds : List Py.D) (P : Hp → (Addr → Prop) → List Addr → Prop) (S : Addr → Prop) : Prop where
  len : ds.length ≤ Py.LIM
  wr : ∀ {H1 : Hp} {Z1 : Addr → Prop} {η1 : List Addr} {p : Addr} {us us' : List V}, P H1 Z1 η1 → H1 p = some (.lst us) → ¬ Z1 p → ¬ S p → P (upd H1 p (.lst us')) Z1 η1
  sd : ∀ {H1 : Hp} {Z1 : Addr → Prop} {η1 : List Addr}, P H1 Z1 η1 → ∀ b, S b → H1 b ≠ none
  step : ∀ {H1 H2 : Hp} {Z1 Z2 : Addr → Prop} {η1 η2 : List Addr} {ω1 : Py.Store}, P H1 Z1 η1 → c.WI H1 Z1 η1 ω1 → Step H1 Z1 η1 H2 Z2 η2 → P H2 Z2 η2
  grow : fz = true → ∀ {H1 H2 : Hp} {Z1 Z2 : Addr → Prop} {η1 η2 : List Addr}, P H1 Z1 η1 → Grow H1 Z1 η1 H2 Z2 η2 → P H2 Z2 η2
  go : ∀ {H1 : Hp} {Z1 : Addr → Prop} {η1 : List Addr} {ω1 : Py.Store} {i : Nat} {d : Py.D}, P H1 Z1 η1 → c.WI H1 Z1 η1 ω1 → ds[i]? = some d → J.go i H1 ∧ ∀ x H2, J.yld i H1 x H2 → Step H1 Z1 η1 H2 Z1 η1 ∧ c.WI H2 Z1 η1 ω1 ∧ c.Rep H2 Z1 η1 x d
  stop : ∀ {H1 : Hp} {Z1 : Addr → Prop} {η1 : List Addr} {i : Nat}, P H1 Z1 η1 → ds.length ≤ i → J.stop i H1
def ItOk (c : Ct) (fz : Bool) (J : It) (ds : List Py.D) (H : Hp) (Z : Addr → Prop) (η : List Addr) : Prop := ∃ P S, ItOkP c fz J ds P S ∧ P H Z η
def postI (c : Ct) (fz : Bool) (σ : L2.St) (H : Hp) (Z : Addr → Prop) (η : List Addr) (R : It → Hp → Prop) (res : Py.Res (List Py.D)) : Prop := match res with
  | .ok ds ω' => ∀ J H' Z' η', c.Nx H Z η H' Z' η' ω' → ItOk c fz J ds H' Z' η' → R J H'
  | .exc x ω' => ∀ H' Z' η' a, c.Nx H Z η H' Z' η' ω' → c.eA x = some a → c.W (.ref a) none σ H'
  | .stuck => False
def tI (c : Ct) (fz : Bool) (m : Py.Env → Py.M (List Py.D)) : TI := fun σ H R => ∃ Z η ω r, c.Env σ r H Z η ω ∧ postI c fz σ H Z η R (m r ω)
def JI (c : Ct) (fz : Bool) (tg e : Expr) (m : Py.Env → Py.M (List Py.D)) : Prop := PI c.X tg e (tI c fz m)
theorem PI.imp {X : Cx} {tg e : Expr} {t t' : TI} (h : PI X tg e t) (i : ∀ σ H R, t' σ H R → t σ H R) : PI X tg e t' := ⟨fun pins s σ H R I q => h.run pins s σ H R I (i σ H R q)⟩
section
variable {c : Ct} {fz : Bool} {k ka kb : Kd} {σ : L2.St} {H H1 : Hp} {R : It → Hp → Prop}
/-- what lies behind the walked thing's expression -/
theorem tI.bnd {ma : Py.Env → Py.M Py.D} {f : Py.Env → Py.D → Py.M (List Py.D)} (h : tI c fz (fun r => Py.bnd (ma r) (f r)) σ H R) :
    tE c k ma σ H (fun v H1 => ∃ Z η Z1 η1 ω1 r d, c.Env σ r H1 Z1 η1 ω1 ∧ c.Nx H Z η H1 Z1 η1 ω1 ∧ ResR c k r σ H H1 Z1 η1 v d ∧ postI c fz σ H Z η R (f r d ω1)) := by
  obtain ⟨Z, η, ω, r, e, h⟩ := h
  refine ⟨Z, η, ω, r, e, ?_⟩
  unfold Py.bnd at h
  cases hm : ma r ω with
  | stuck => simp only [hm] at h; exact h
  | exc x ω' => simp only [hm] at h; exact h
  | ok d ω' =>
    simp only [hm] at h
    intro v H1 Z1 η1 n q
    exact ⟨Z, η, Z1, η1, ω', r, d, e.step n.s n.w, n, q, h⟩
theorem itok_tup {a : Addr} {vs : List V} {ds : List Py.D} {Z : Addr → Prop} {η : List Addr} (h : H a = some (.tup vs)) (rl : c.RepL H Z η vs ds) (hl : ds.length ≤ Py.LIM) : ItOk c fz (Itt c.X.K a) ds H Z η := by
  refine ⟨fun H Z η => H a = some (.tup vs) ∧ c.RepL H Z η vs ds, fun _ => False, ⟨hl, fun p hp nz _ => ⟨by rw [upd_ne (ne_of p.1 hp (by intro z; cases z))]; exact p.1, p.2.write hp nz⟩, fun _ _ h => h.elim, fun p w s => ⟨s.tups _ _ p.1, s.repL w p.2⟩, fun _ _ _ _ _ _ _ p g => ⟨g.keep _ _ p.1 (.inr ⟨_, rfl⟩), g.repL p.2⟩, fun p w hd => ?_, fun p hi => ?_⟩, h, rl⟩
  · obtain ⟨v, h1, h2⟩ := p.2.get hd
    refine ⟨⟨vs, v, .of p.1, h1⟩, fun x H2 y => ?_⟩
    obtain ⟨rfl, y⟩ := y
    have e := y vs (.of p.1)
    rw [h1] at e
    cases e
    exact ⟨.refl, w, h2⟩
  · exact ⟨vs, .of p.1, by rw [p.2.length]; exact hi⟩
theorem itok_str {cs : List Nat} {Z : Addr → Prop} {η : List Addr} (hc : (cs.all fun c => decide (c < 1114112)) = true) (hl : cs.length ≤ Py.LIM) : ItOk c fz (Its ⟨cs.toArray⟩) (cs.map fun c => .str [c]) H Z η := by
  refine ⟨fun _ _ _ => True, fun _ => False, ⟨by simpa using hl, fun _ _ _ _ => trivial, fun _ _ h => h.elim, fun _ _ _ => trivial, fun _ _ _ _ _ _ _ _ _ => trivial, fun {H1 Z1 η1 ω1 i d} _ w hd => ?_, fun {H1 Z1 η1 i} _ hi => ?_⟩, trivial⟩
  · rw [List.getElem?_map] at hd
    obtain ⟨ch, h1, rfl⟩ := Option.map_eq_some_iff.mp hd
    refine ⟨?_, fun x H2 y => ?_⟩
    · show i < cs.toArray.size
      simpa using (List.getElem?_eq_some_iff.mp h1).1
    · obtain ⟨rfl, c', h2, rfl⟩ := y
      have e : c' = ch := by
        have h3 : cs.toArray[i]? = some c' := h2
        rw [List.getElem?_toArray, h1] at h3
        exact (Option.some.inj h3).symm
      subst e
      exact ⟨.refl, w, .str [c'] (chars_ok hc (List.mem_of_getElem? h1))⟩
  · show cs.toArray.size ≤ i
    simpa using hi
theorem itok_frz {a : Addr} {vs : List V} {ds : List Py.D} {Z : Addr → Prop} {η : List Addr} (h : H a = some (.lst vs)) (rl : c.RepL H Z η vs ds) (hz : Z a) (hl : ds.length ≤ Py.LIM) : ItOk c fz (Itl c.X.K a) ds H Z η := by
  refine ⟨fun H Z η => H a = some (.lst vs) ∧ c.RepL H Z η vs ds ∧ Z a, fun _ => False, ⟨hl, fun p hp nz _ => ⟨by rw [upd_ne (by rintro rfl; exact nz p.2.2)]; exact p.1, p.2.1.write hp nz, p.2.2⟩, fun _ _ h => h.elim, fun p w s => ⟨s.keep _ _ p.1 (w.zη _ p.2.2), s.repL w p.2.1, s.zz _ p.2.2⟩, fun _ _ _ _ _ _ _ p g => ⟨g.keep _ _ p.1 (.inl p.2.2), g.repL p.2.1, g.zz _ p.2.2⟩, fun p w hd => ?_, fun p hi => ?_⟩, h, rl, hz⟩
  · obtain ⟨v, h1, h2⟩ := p.2.1.get hd
    refine ⟨⟨vs, v, .of p.1, h1⟩, fun x H2 y => ?_⟩
    obtain ⟨rfl, y⟩ := y
    have e := y vs (.of p.1)
    rw [h1] at e
    cases e
    exact ⟨.refl, w, h2⟩
  · exact ⟨vs, .of p.1, by rw [p.2.1.length]; exact hi⟩
theorem itok_own {a : Addr} {vs : List V} {ds : List Py.D} {Z : Addr → Prop} {η : List Addr} (h : H a = some (.lst vs)) (rl : c.RepL H Z η vs ds) (hn : a ∉ η) (hl : ds.length ≤ Py.LIM) : ItOk c false (Itl c.X.K a) ds H Z η := by
  refine ⟨fun H Z η => H a = some (.lst vs) ∧ c.RepL H Z η vs ds ∧ a ∉ η, fun b => b = a, ⟨hl, fun p hp nz ns => ⟨by rw [upd_ne (by rintro rfl; exact ns rfl)]; exact p.1, p.2.1.write hp nz, p.2.2⟩, fun p b e => (by rw [e, p.1]; simp), fun {H1 H2 Z1 Z2 η1 η2 ω1} p w s => ⟨s.keep _ _ p.1 p.2.2, s.repL w p.2.1, fun m => ?_⟩, fun e => (by cases e), fun p w hd => ?_, fun p hi => ?_⟩, h, rl, hn⟩
  · obtain ⟨l, rfl, hl⟩ := s.eta
    rcases List.mem_append.mp m with q | q
    · exact p.2.2 q
    · have := hl _ q
      rw [p.1] at this
      cases this
  · obtain ⟨v, h1, h2⟩ := p.2.1.get hd
    refine ⟨⟨vs, v, .of p.1, h1⟩, fun x H2 y => ?_⟩
    obtain ⟨rfl, y⟩ := y
    have e := y vs (.of p.1)
    rw [h1] at e
    cases e
    exact ⟨.refl, w, h2⟩
  · exact ⟨vs, .of p.1, by rw [p.2.1.length]; exact hi⟩
theorem itok_rng {lo : Int} {n : Nat} {Z : Addr → Prop} {η : List Addr} (hl : n ≤ Py.LIM) : ItOk c fz (Itr lo n) (Py.intsF lo n) H Z η := by
  have len : ∀ (n : Nat) (lo : Int), (Py.intsF lo n).length = n := fun n => by
    induction n with
    | zero => intro lo; rfl
    | succ n ih => intro lo; simp [Py.intsF, ih]
  have get : ∀ (n i : Nat) (lo : Int) (d : Py.D), (Py.intsF lo n)[i]? = some d → i < n ∧ d = .int (lo + i) := fun n => by
    induction n with
    | zero => intro i lo d h; simp [Py.intsF] at h
    | succ n ih =>
      intro i lo d h
      cases i with
      | zero => simp [Py.intsF] at h; subst h; exact ⟨by omega, by simp⟩
      | succ i =>
        obtain ⟨h1, h2⟩ := ih i (lo + 1) d (by simpa [Py.intsF] using h)
        refine ⟨by omega, ?_⟩
        have e : lo + 1 + (i : Int) = lo + ((i + 1 : Nat) : Int) := by push_cast; omega
        rw [h2, e]
  refine ⟨fun _ _ _ => True, fun _ => False, ⟨by rw [len]; exact hl, fun _ _ _ _ => trivial, fun _ _ h => h.elim, fun _ _ _ => trivial, fun _ _ _ _ _ _ _ _ _ => trivial, fun {H1 Z1 η1 ω1 i d} _ w hd => ?_, fun {H1 Z1 η1 i} _ hi => ?_⟩, trivial⟩
  · obtain ⟨h1, rfl⟩ := get n i lo d hd
    refine ⟨h1, fun x H2 y => ?_⟩
    obtain ⟨rfl, rfl⟩ := y
    exact ⟨.refl, w, .int _⟩
  · rw [len] at hi
    exact hi
theorem zip_get : ∀ {xs ys : List Py.D} {i : Nat} {d : Py.D}, (Py.zipD xs ys)[i]? = some d → ∃ x y, xs[i]? = some x ∧ ys[i]? = some y ∧ d = .tup [x, y]
  | [], _, i, d, h => by simp [Py.zipD] at h
  | _ :: _, [], i, d, h => by simp [Py.zipD] at h
  | x :: xs, y :: ys, 0, d, h => by simp [Py.zipD] at h; exact ⟨x, y, rfl, rfl, h.symm⟩
  | x :: xs, y :: ys, i + 1, d, h => by
    obtain ⟨u, v, h1, h2, h3⟩ := zip_get (xs := xs) (ys := ys) (i := i) (by simpa [Py.zipD] using h)
    exact ⟨u, v, by simpa using h1, by simpa using h2, h3⟩
theorem zip_len : ∀ (xs ys : List Py.D), (Py.zipD xs ys).length = min xs.length ys.length
  | [], _ => by simp [Py.zipD]
  | _ :: _, [] => by simp [Py.zipD]
  | x :: xs, y :: ys => by simp only [Py.zipD, List.length_cons, zip_len xs ys]; omega
/-- a source of zip: a list (new, frozen or owned) or a tuple that stands -/
structure SrcP (c : Ct) (fz : Bool) (a : Addr) (ds : List Py.D) (rd : Hp → List V → Prop) (P : Hp → (Addr → Prop) → List Addr → Prop) (S : Addr → Prop) : Prop where
  wr : ∀ {H1 : Hp} {Z1 : Addr → Prop} {η1 : List Addr} {p : Addr} {us us' : List V}, P H1 Z1 η1 → H1 p = some (.lst us) → ¬ Z1 p → ¬ S p → P (upd H1 p (.lst us')) Z1 η1
  sd : ∀ {H1 : Hp} {Z1 : Addr → Prop} {η1 : List Addr}, P H1 Z1 η1 → ∀ b, S b → H1 b ≠ none
  step : ∀ {H1 H2 : Hp} {Z1 Z2 : Addr → Prop} {η1 η2 : List Addr} {ω1 : Py.Store}, P H1 Z1 η1 → c.WI H1 Z1 η1 ω1 → Step H1 Z1 η1 H2 Z2 η2 → P H2 Z2 η2
  grow : fz = true → ∀ {H1 H2 : Hp} {Z1 Z2 : Addr → Prop} {η1 η2 : List Addr}, P H1 Z1 η1 → Grow H1 Z1 η1 H2 Z2 η2 → P H2 Z2 η2
  get : ∀ {H1 : Hp} {Z1 : Addr → Prop} {η1 : List Addr}, P H1 Z1 η1 → ∃ vs, rd H1 vs ∧ c.RepL H1 Z1 η1 vs ds
theorem itok_zip {a b : Addr} {ds es : List Py.D} {Pa Pb : Hp → (Addr → Prop) → List Addr → Prop} {Sa Sb : Addr → Prop} {Z : Addr → Prop} {η : List Addr} (ha : SrcP c fz a ds (fun H => SqL c.X.K H a) Pa Sa) (hb : SrcP c fz b es (fun H => SqL c.X.K H b) Pb Sb) (pa : Pa H Z η) (pb : Pb H Z η) (hl : ds.length ≤ Py.LIM) :
    ItOk c fz (Itz c.X.K a b) (Py.zipD ds es) H Z η := by
  refine ⟨fun H Z η => Pa H Z η ∧ Pb H Z η, fun b => Sa b ∨ Sb b, ⟨by rw [zip_len]; omega, fun p hp nz ns => ⟨ha.wr p.1 hp nz (fun z => ns (.inl z)), hb.wr p.2 hp nz (fun z => ns (.inr z))⟩, fun p b h => h.elim (ha.sd p.1 b) (hb.sd p.2 b), fun p w s => ⟨ha.step p.1 w s, hb.step p.2 w s⟩, fun e {H1 H2 Z1 Z2 η1 η2} p g => ⟨ha.grow e p.1 g, hb.grow e p.2 g⟩, fun {H1 Z1 η1 ω1 i d} p w hd => ?_, fun p hi => ?_⟩, pa, pb⟩
  · obtain ⟨vs, r1, l1⟩ := ha.get p.1
    obtain ⟨us, r2, l2⟩ := hb.get p.2
    obtain ⟨x, y, h1, h2, rfl⟩ := zip_get hd
    obtain ⟨v, g1, q1⟩ := l1.get h1
    obtain ⟨u, g2, q2⟩ := l2.get h2
    refine ⟨⟨vs, us, v, u, r1, r2, g1, g2⟩, fun t H2 yy => ?_⟩
    obtain ⟨T, v', u', rfl, nT, rfl, k1, k2⟩ := yy
    have e1 := (k1 vs r1).symm.trans g1
    have e2 := (k2 us r2).symm.trans g2
    cases e1
    cases e2
    exact ⟨.new nT, Ct.WI.new w nT, Rep.newT ⟨.refl, w⟩ nT (.cons q1 (.one q2))⟩
  · obtain ⟨vs, r1, l1⟩ := ha.get p.1
    obtain ⟨us, r2, l2⟩ := hb.get p.2
    refine ⟨vs, us, r1, r2, ?_⟩
    rw [zip_len] at hi
    rw [l1.length, l2.length]
    omega
theorem itok_zipT {a b : Addr} {ds es : List Py.D} {Pa Pb : Hp → (Addr → Prop) → List Addr → Prop} {Sa Sb : Addr → Prop} {Z : Addr → Prop} {η : List Addr} (ha : SrcP c fz a ds (fun H => SqT c.X.K H a) Pa Sa) (hb : SrcP c fz b es (fun H => SqT c.X.K H b) Pb Sb) (pa : Pa H Z η) (pb : Pb H Z η) (hl : ds.length ≤ Py.LIM) :
    ItOk c fz (RZ.ItzT c.X.K a b) (Py.zipD ds es) H Z η := by
  refine ⟨fun H Z η => Pa H Z η ∧ Pb H Z η, fun b => Sa b ∨ Sb b, ⟨by rw [zip_len]; omega, fun p hp nz ns => ⟨ha.wr p.1 hp nz (fun z => ns (.inl z)), hb.wr p.2 hp nz (fun z => ns (.inr z))⟩, fun p b h => h.elim (ha.sd p.1 b) (hb.sd p.2 b), fun p w s => ⟨ha.step p.1 w s, hb.step p.2 w s⟩, fun e {H1 H2 Z1 Z2 η1 η2} p g => ⟨ha.grow e p.1 g, hb.grow e p.2 g⟩, fun {H1 Z1 η1 ω1 i d} p w hd => ?_, fun p hi => ?_⟩, pa, pb⟩
  · obtain ⟨vs, r1, l1⟩ := ha.get p.1
    obtain ⟨us, r2, l2⟩ := hb.get p.2
    obtain ⟨x, y, h1, h2, rfl⟩ := zip_get hd
    obtain ⟨v, g1, q1⟩ := l1.get h1
    obtain ⟨u, g2, q2⟩ := l2.get h2
    refine ⟨⟨vs, us, v, u, r1, r2, g1, g2⟩, fun t H2 yy => ?_⟩
    obtain ⟨T, v', u', rfl, nT, rfl, k1, k2⟩ := yy
    have e1 := (k1 vs r1).symm.trans g1
    have e2 := (k2 us r2).symm.trans g2
    cases e1
    cases e2
    exact ⟨.new nT, Ct.WI.new w nT, Rep.newT ⟨.refl, w⟩ nT (.cons q1 (.one q2))⟩
  · obtain ⟨vs, r1, l1⟩ := ha.get p.1
    obtain ⟨us, r2, l2⟩ := hb.get p.2
    refine ⟨vs, us, r1, r2, ?_⟩
    rw [zip_len] at hi
    rw [l1.length, l2.length]
    omega
theorem enum_get : ∀ {xs : List Py.D} {j : Int} {i : Nat} {d : Py.D}, (Py.enumD j xs)[i]? = some d → ∃ x, xs[i]? = some x ∧ d = .tup [.int (j + i), x]
  | [], _, i, d, h => by simp [Py.enumD] at h
  | x :: xs, j, 0, d, h => by simp [Py.enumD] at h; exact ⟨x, rfl, by simp [← h]⟩
  | x :: xs, j, i + 1, d, h => by
    obtain ⟨u, h1, h2⟩ := enum_get (xs := xs) (j := j + 1) (i := i) (by simpa [Py.enumD] using h)
    refine ⟨u, by simpa using h1, ?_⟩
    rw [h2]
    have e : j + 1 + (i : Int) = j + ((i + 1 : Nat) : Int) := by push_cast; omega
    rw [e]
theorem enum_len : ∀ (xs : List Py.D) (j : Int), (Py.enumD j xs).length = xs.length
  | [], _ => rfl
  | x :: xs, j => by simp [Py.enumD, enum_len xs]
theorem itok_enum {a : Addr} {ds : List Py.D} {Pa : Hp → (Addr → Prop) → List Addr → Prop} {Sa : Addr → Prop} {Z : Addr → Prop} {η : List Addr} (ha : SrcP c fz a ds (fun H => SqL c.X.K H a) Pa Sa) (pa : Pa H Z η) (hl : ds.length ≤ Py.LIM) :
    ItOk c fz (Ite c.X.K a) (Py.enumD 0 ds) H Z η := by
  refine ⟨Pa, Sa, ⟨by rw [enum_len]; exact hl, ha.wr, ha.sd, ha.step, ha.grow, fun {H1 Z1 η1 ω1 i d} p w hd => ?_, fun p hi => ?_⟩, pa⟩
  · obtain ⟨vs, r1, l1⟩ := ha.get p
    obtain ⟨x, h1, rfl⟩ := enum_get hd
    obtain ⟨v, g1, q1⟩ := l1.get h1
    refine ⟨⟨vs, v, r1, g1⟩, fun t H2 yy => ?_⟩
    obtain ⟨T, v', rfl, nT, rfl, k1⟩ := yy
    have e1 := (k1 vs r1).symm.trans g1
    cases e1
    refine ⟨.new nT, Ct.WI.new w nT, Rep.newT ⟨.refl, w⟩ nT (.cons ?_ (.one q1))⟩
    rw [Int.zero_add]
    exact .int _
  · obtain ⟨vs, r1, l1⟩ := ha.get p
    exact ⟨vs, r1, by rw [l1.length]; rw [enum_len] at hi; exact hi⟩
/-- a value as a source -/
theorem src_tup {a : Addr} {vs : List V} {ds : List Py.D} : SrcP c fz a ds (fun H => SqT c.X.K H a) (fun H Z η => H a = some (.tup vs) ∧ c.RepL H Z η vs ds) (fun _ => False) :=
  ⟨fun p hp nz _ => ⟨by rw [upd_ne (ne_of p.1 hp (by intro z; cases z))]; exact p.1, p.2.write hp nz⟩, fun _ _ h => h.elim, fun p w s => ⟨s.tups _ _ p.1, s.repL w p.2⟩, fun _ _ _ _ _ _ _ p g => ⟨g.keep _ _ p.1 (.inr ⟨_, rfl⟩), g.repL p.2⟩, fun p => ⟨vs, .of p.1, p.2⟩⟩
theorem src_frz {a : Addr} {vs : List V} {ds : List Py.D} : SrcP c fz a ds (fun H => SqL c.X.K H a) (fun H Z η => H a = some (.lst vs) ∧ c.RepL H Z η vs ds ∧ Z a) (fun _ => False) :=
  ⟨fun p hp nz _ => ⟨by rw [upd_ne (by rintro rfl; exact nz p.2.2)]; exact p.1, p.2.1.write hp nz, p.2.2⟩, fun _ _ h => h.elim, fun p w s => ⟨s.keep _ _ p.1 (w.zη _ p.2.2), s.repL w p.2.1, s.zz _ p.2.2⟩, fun _ _ _ _ _ _ _ p g => ⟨g.keep _ _ p.1 (.inl p.2.2), g.repL p.2.1, g.zz _ p.2.2⟩, fun p => ⟨vs, .of p.1, p.2.1⟩⟩
theorem src_own {a : Addr} {vs : List V} {ds : List Py.D} : SrcP c false a ds (fun H => SqL c.X.K H a) (fun H Z η => H a = some (.lst vs) ∧ c.RepL H Z η vs ds ∧ a ∉ η) (fun b => b = a) :=
  ⟨fun p hp nz ns => ⟨by rw [upd_ne (by rintro rfl; exact ns rfl)]; exact p.1, p.2.1.write hp nz, p.2.2⟩, fun p b e => (by rw [e, p.1]; simp), fun {H1 H2 Z1 Z2 η1 η2 ω1} p w s => ⟨s.keep _ _ p.1 p.2.2, s.repL w p.2.1, fun m => by
    obtain ⟨l, rfl, hl⟩ := s.eta
    rcases List.mem_append.mp m with q | q
    · exact p.2.2 q
    · have := hl _ q
      rw [p.1] at this
      cases this⟩, fun e => (by cases e), fun p => ⟨vs, .of p.1, p.2.1⟩⟩
/-- operands: a value, or the list that slot i owns -/
def OpK (fz : Bool) (k : Kd) : Prop := k = .val ∨ (fz = false ∧ ∃ i, k = .pk i)
theorem ResR.src {r : Py.Env} {v : V} {ds : List Py.D} {Z1 : Addr → Prop} {η1 : List Addr} {ω1 : Py.Store} {Hb : Hp} (hk : OpK fz k) (e : c.Env σ r H1 Z1 η1 ω1) (q : ResR c k r σ Hb H1 Z1 η1 v (.lst ds)) :
    ∃ a vs P S, v = .ref a ∧ H1 a = some (.lst vs) ∧ SrcP c fz a ds (fun H => SqL c.X.K H a) P S ∧ P H1 Z1 η1 ∧ c.RepL H1 Z1 η1 vs ds := by
  rcases hk with rfl | ⟨rfl, i, rfl⟩
  · cases (show PyS.Rep c.X.K c.fA H1 Z1 η1 v (.lst ds) from q) with
    | lst z h rl => exact ⟨_, _, _, _, rfl, h, src_frz, ⟨h, rl, z⟩, rl⟩
  · obtain ⟨h, ds', e1, e2⟩ := q
    cases e2
    obtain ⟨p, e2, vs, hp, rl, nz, nη, _⟩ := e.sl.own i ds e1
    rw [h] at e2
    cases e2
    exact ⟨p, vs, _, _, rfl, hp, src_own, ⟨hp, rl, nη⟩, rl⟩
theorem ResR.itok {r : Py.Env} {v : V} {ds : List Py.D} {Z1 : Addr → Prop} {η1 : List Addr} {ω1 : Py.Store} {Hb : Hp} (hk : OpK fz k) (e : c.Env σ r H1 Z1 η1 ω1) (q : ResR c k r σ Hb H1 Z1 η1 v (.lst ds)) :
    ∃ a vs, v = .ref a ∧ H1 a = some (.lst vs) ∧ c.RepL H1 Z1 η1 vs ds ∧ (ds.length ≤ Py.LIM → ItOk c fz (Itl c.X.K a) ds H1 Z1 η1) := by
  rcases hk with rfl | ⟨rfl, i, rfl⟩
  · cases (show PyS.Rep c.X.K c.fA H1 Z1 η1 v (.lst ds) from q) with
    | lst z h rl => exact ⟨_, _, rfl, h, rl, fun hl => itok_frz h rl z hl⟩
  · obtain ⟨h, ds', e1, e2⟩ := q
    cases e2
    obtain ⟨p, e2, vs, hp, rl, nz, nη, _⟩ := e.sl.own i ds e1
    rw [h] at e2
    cases e2
    exact ⟨p, vs, rfl, hp, rl, fun hl => itok_own hp rl nη hl⟩
theorem ResR.tup {r : Py.Env} {v : V} {ds : List Py.D} {Z1 : Addr → Prop} {η1 : List Addr} {Hb : Hp} (hk : OpK fz k) (q : ResR c k r σ Hb H1 Z1 η1 v (.tup ds)) : ∃ a vs, v = .ref a ∧ H1 a = some (.tup vs) ∧ c.RepL H1 Z1 η1 vs ds := by
  rcases hk with rfl | ⟨rfl, i, rfl⟩
  · cases (show PyS.Rep c.X.K c.fA H1 Z1 η1 v (.tup ds) from q) with
    | tup h rl => exact ⟨_, _, rfl, h, rl⟩
  · obtain ⟨_, _, _, e2⟩ := q
    cases e2
/-! ### the walked expressions -/
theorem ji_seq {tg a : Expr} {m : Py.Env → Py.M Py.D} (hk : OpK fz k) (ha : JE c k a m) : JI c fz tg a (fun r => Py.bnd (m r) fun x => Py.lif (Py.itD x)) := by
  refine PI.imp (pi_seq ha) fun σ H R h => tE.mono h.bnd fun v H1 ⟨Z, η, Z1, η1, ω1, r, d, e, n, q, h⟩ => ?_
  cases hd : Py.itD d with
  | none => rw [hd] at h; exact h.elim
  | some ds =>
    rw [hd] at h
    cases d <;> (try (simp [Py.itD] at hd; done))
    case str cs =>
      simp only [Py.itD] at hd
      split at hd
      case isFalse => cases hd
      case isTrue hl =>
        cases hd
        obtain ⟨rfl, hc⟩ := (q.view e).str
        exact .inr (.inr ⟨_, rfl, h _ _ Z1 η1 n (itok_str hc hl)⟩)
    case tup xs =>
      simp only [Py.itD, Option.some.injEq] at hd
      subst hd
      obtain ⟨a, vs, rfl, h1, rl⟩ := q.tup hk
      exact .inr (.inl ⟨a, vs, rfl, .of h1, fun hl => h _ _ Z1 η1 n (itok_tup h1 rl (by rw [← rl.length, lim_eq]; exact hl))⟩)
    case lst xs =>
      simp only [Py.itD, Option.some.injEq] at hd
      subst hd
      obtain ⟨a, vs, rfl, h1, rl, ok⟩ := q.itok hk e
      exact .inl ⟨a, vs, rfl, .of h1, fun hl => h _ _ Z1 η1 n (ok (by rw [← rl.length, lim_eq]; exact hl))⟩
theorem rng_bounds {i j : Int} (h : Py.rngOk i j = true) : (-(2 ^ 62) ≤ i ∧ i < 2 ^ 62 ∧ -(2 ^ 62) ≤ j ∧ j < 2 ^ 62) ∧ j - i ≤ 16777216 := by
  unfold Py.rngOk at h
  simp only [Bool.and_eq_true, decide_eq_true_eq] at h
  omega
theorem ji_rng1 {tg a : Expr} {p pos : Pos} {m : Py.Env → Py.M Py.D} (ha : JE c k a m) (hg : Gl c.X "range") (hm : c.X.mg "range" = none) (hs : starEach [a] c.X.env = [(false, eval a c.X.env)]) :
    JI c fz tg (.Call (.Name "range" p) [a] [] pos) (fun r => Py.bnd (m r) fun x => Py.lif ((Py.asInt x).bind fun j => Py.rngD 0 j)) := by
  refine PI.imp (pi_range1 hg hm (pa_cons ha pa_nil hs) hs) fun σ H R h => tE.mono h.bnd fun v H1 ⟨Z, η, Z1, η1, ω1, r, d, e, n, q, h⟩ => ?_
  replace h : postI c fz σ H Z η R (Py.lif ((Py.asInt d).bind fun j => Py.rngD 0 j) ω1) := h
  cases hd : (Py.asInt d).bind fun j => Py.rngD 0 j with
  | none => rw [hd] at h; exact h.elim
  | some ds =>
    rw [hd] at h
    obtain ⟨j, h1, h2⟩ := Option.bind_eq_some_iff.mp hd
    obtain rfl := asInt_some h1
    unfold Py.rngD at h2
    split at h2
    case isFalse => cases h2
    case isTrue hb =>
      cases h2
      have hb := rng_bounds hb
      have := (q.view e).int
      subst this
      refine ⟨j, rfl, hb.1.2.2.1, hb.1.2.2.2, h _ _ Z1 η1 n ?_⟩
      rw [show j - 0 = j by omega]
      exact itok_rng (by show j.toNat ≤ 16777216; omega)
theorem ji_rng2 {tg a b : Expr} {p pos : Pos} {m mb : Py.Env → Py.M Py.D} (ha : JE c ka a m) (hb : JE c kb b mb) (hg : Gl c.X "range") (hm : c.X.mg "range" = none) (hs : starEach [a, b] c.X.env = [(false, eval a c.X.env), (false, eval b c.X.env)]) (hs2 : starEach [b] c.X.env = [(false, eval b c.X.env)]) :
    JI c fz tg (.Call (.Name "range" p) [a, b] [] pos) (fun r => Py.bnd (m r) fun x => Py.bnd (mb r) fun y => Py.lif ((Py.asInt x).bind fun i => (Py.asInt y).bind fun j => Py.rngD i j)) := by
  refine PI.imp (pi_range2 hg hm (pa_cons ha (pa_cons hb pa_nil hs2) (by rw [hs, hs2])) hs hs2) fun σ H R h => tE.mono h.bnd fun v H1 ⟨Z, η, Z1, η1, ω1, r, d, e, n, q, h⟩ => ?_
  refine ⟨Z1, η1, ω1, r, e, ?_⟩
  replace h : postI c fz σ H Z η R (Py.bnd (mb r) (fun y => Py.lif ((Py.asInt d).bind fun i => (Py.asInt y).bind fun j => Py.rngD i j)) ω1) := h
  unfold Py.bnd at h
  cases hmb : mb r ω1 with
  | stuck => rw [hmb] at h; exact h
  | exc x ω' => rw [hmb] at h; exact fun H' Z' η' a n2 ha => h H' Z' η' a (n.trans n2) ha
  | ok d2 ω' =>
    rw [hmb] at h
    intro u H2 Z2 η2 n2 q2
    replace h : postI c fz σ H Z η R (Py.lif ((Py.asInt d).bind fun i => (Py.asInt d2).bind fun j => Py.rngD i j) ω') := h
    cases hd : (Py.asInt d).bind fun i => (Py.asInt d2).bind fun j => Py.rngD i j with
    | none => rw [hd] at h; exact h.elim
    | some ds =>
      rw [hd] at h
      obtain ⟨i, h1, h2⟩ := Option.bind_eq_some_iff.mp hd
      obtain ⟨j, h3, h4⟩ := Option.bind_eq_some_iff.mp h2
      obtain rfl := asInt_some h1
      obtain rfl := asInt_some h3
      unfold Py.rngD at h4
      split at h4
      case isFalse => cases h4
      case isTrue hb =>
        cases h4
        have hb := rng_bounds hb
        have e1 := (q.view e).int
        have e2 := (q2.view (e.step n2.s n2.w)).int
        subst e1 e2
        exact ⟨i, j, rfl, hb.1, h _ _ Z2 η2 (n.trans n2) (itok_rng (by show (j - i).toNat ≤ 16777216; omega))⟩
theorem zip_case {d d2 : Py.D} {ds : List Py.D} (h : Py.zipDD d d2 = some ds) : (∃ xs ys, d = .lst xs ∧ d2 = .lst ys ∧ ds = Py.zipD xs ys ∧ xs.length ≤ Py.LIM) ∨ (∃ xs ys, d = .tup xs ∧ d2 = .tup ys ∧ ds = Py.zipD xs ys ∧ xs.length ≤ Py.LIM) := by
  unfold Py.zipDD at h
  split at h
  · split at h
    case isFalse => cases h
    case isTrue hl => cases h; exact .inl ⟨_, _, rfl, rfl, rfl, hl⟩
  · split at h
    case isFalse => cases h
    case isTrue hl => cases h; exact .inr ⟨_, _, rfl, rfl, rfl, hl⟩
  · cases h
theorem ji_zip {a b : Expr} {elts : List Expr} {kk : Nat} {p pos tpos : Pos} {m mb : Py.Env → Py.M Py.D} (hka : OpK fz ka) (hkb : OpK fz kb) (ha : JE c ka a m) (hb : JE c kb b mb) (hg : Gl c.X "zip") (hm : c.X.mg "zip" = none) (hs : starEach [a, b] c.X.env = (false, eval a c.X.env) :: starEach [b] c.X.env)
    (hs2 : starEach [b] c.X.env = (false, eval b c.X.env) :: starEach [] c.X.env) (hpl : (backTo pos (starEach [b] c.X.env)).any (·.1) = false) :
    JI c fz (.Tuple elts kk tpos) (.Call (.Name "zip" p) [a, b] [] pos) (fun r => Py.bnd (m r) fun x => Py.bnd (mb r) fun y => Py.lif (Py.zipDD x y)) := by
  refine PI.imp (RZ.pi_zipA hg hm (pa_cons ha (pa_cons hb pa_nil hs2) hs) hs hpl) fun σ H R h => tE.mono h.bnd fun v H1 ⟨Z, η, Z1, η1, ω1, r, d, e, n, q, h⟩ => ?_
  refine ⟨Z1, η1, ω1, r, e, ?_⟩
  replace h : postI c fz σ H Z η R (Py.bnd (mb r) (fun y => Py.lif (Py.zipDD d y)) ω1) := h
  unfold Py.bnd at h
  cases hmb : mb r ω1 with
  | stuck => rw [hmb] at h; exact h
  | exc x ω' => rw [hmb] at h; exact fun H' Z' η' a n2 ha => h H' Z' η' a (n.trans n2) ha
  | ok d2 ω' =>
    rw [hmb] at h
    intro u H2 Z2 η2 n2 q2
    replace h : postI c fz σ H Z η R (Py.lif (Py.zipDD d d2) ω') := h
    cases hd : Py.zipDD d d2 with
    | none => rw [hd] at h; exact h.elim
    | some ds =>
      rw [hd] at h
      have e2 := e.step n2.s n2.w
      have q1 := q.step e.w n2.s
      rcases zip_case hd with ⟨xs, ys, rfl, rfl, rfl, hl⟩ | ⟨xs, ys, rfl, rfl, rfl, hl⟩
      · obtain ⟨a1, vs1, P1, S1, rfl, g1, s1, p1, l1⟩ := q1.src hka e2
        obtain ⟨a2, vs2, P2, S2, rfl, g2, s2, p2, l2⟩ := q2.src hkb e2
        exact ⟨a1, a2, vs1, vs2, rfl, .inl ⟨.of g1, .of g2, h _ _ Z2 η2 (n.trans n2) (itok_zip s1 s2 p1 p2 hl)⟩⟩
      · obtain ⟨a1, vs1, rfl, g1, l1⟩ := q1.tup hka
        obtain ⟨a2, vs2, rfl, g2, l2⟩ := q2.tup hkb
        exact ⟨a1, a2, vs1, vs2, rfl, .inr ⟨.of g1, .of g2, h _ _ Z2 η2 (n.trans n2) (itok_zipT src_tup src_tup ⟨g1, l1⟩ ⟨g2, l2⟩ hl)⟩⟩
theorem ji_enum {a : Expr} {elts : List Expr} {kk : Nat} {p pos tpos : Pos} {m : Py.Env → Py.M Py.D} (hk : OpK fz k) (ha : JE c k a m) (hg : Gl c.X "enumerate") (hm : c.X.mg "enumerate" = none) (hs : starEach [a] c.X.env = [(false, eval a c.X.env)]) :
    JI c fz (.Tuple elts kk tpos) (.Call (.Name "enumerate" p) [a] [] pos) (fun r => Py.bnd (m r) fun x => Py.lif (Py.enumDD x)) := by
  refine PI.imp (pi_enum hg hm (pa_cons ha pa_nil hs) hs) fun σ H R h => tE.mono h.bnd fun v H1 ⟨Z, η, Z1, η1, ω1, r, d, e, n, q, h⟩ => ?_
  cases hd : Py.enumDD d with
  | none => rw [hd] at h; exact h.elim
  | some ds =>
    rw [hd] at h
    unfold Py.enumDD at hd
    split at hd
    · split at hd
      case isFalse => cases hd
      case isTrue hl =>
        cases hd
        obtain ⟨a1, vs1, P1, S1, rfl, g1, s1, p1, l1⟩ := q.src hk e
        exact ⟨a1, vs1, rfl, .of g1, h _ _ Z1 η1 n (itok_enum s1 p1 hl)⟩
    · cases hd
end
end PyS

end
section
namespace PyS
open PySem PySem.Spec PyProof.Rows L2
section
variable {c : Ct} {k ka kb : Kd} {σ : L2.St} {r : Py.Env} {H H1 : Hp} {Z Z1 : Addr → Prop} {η η1 : List Addr} {ω ω1 : Py.Store} {p : Addr} {us us' : List V}
/-- a list of ours that is nobody's value is written -/
theorem Ct.WI.write (w : c.WI H Z η ω) (hp : H p = some (.lst us)) (nz : ¬ Z p) (nη : p ∉ η) : c.WI (upd H p (.lst us')) Z η ω := by
  have there : ∀ b, H b ≠ none → upd H p (.lst us') b ≠ none := fun b h => by
    by_cases e : b = p
    · subst e; rw [upd_same]; simp
    · rw [upd_ne e]; exact h
  refine ⟨w.zη, fun b h => there b (w.zd b h), fun b h => there b (w.ηd b h), w.nd, w.len, fun n xs e => ?_, w.nins, w.ndct⟩
  obtain ⟨a, vs, e1, e2, e3⟩ := w.cell n xs e
  exact ⟨a, vs, e1, by rw [upd_ne (by rintro rfl; exact nη (List.mem_of_getElem? e1))]; exact e2, e3.write hp nz⟩
theorem Step.write {H0 : Hp} {Z0 : Addr → Prop} {η0 : List Addr} (s : Step H0 Z0 η0 H Z η) (hp : H p = some (.lst us)) (h0 : H0 p = none) : Step H0 Z0 η0 (upd H p (.lst us')) Z η := by
  refine ⟨fun b o h hn => ?_, fun b xs h => ?_, fun b h => ?_, s.zz, s.nz, s.eta⟩
  · rw [upd_ne (ne_of_none h h0)]; exact s.keep b o h hn
  · rw [upd_ne (ne_of_none h h0)]; exact s.tups b xs h
  · by_cases e : b = p
    · subst e; rw [upd_same]; simp
    · rw [upd_ne e]; exact s.there b h
theorem Ct.Env.write (e : c.Env σ r H Z η ω) (hp : H p = some (.lst us)) (nz : ¬ Z p) (nη : p ∉ η) (h0 : c.H0 p = none) (ha : ∀ (j : Nat) ds, r[j]? = some (.o ds) → σ[j]? ≠ some (some (.ref p))) : c.Env σ r (upd H p (.lst us')) Z η ω := by
  refine ⟨Ct.WI.write e.w hp nz nη, Step.write e.s0 hp h0, ⟨e.sl.len, fun i d h => ?_, fun i ds h => ?_, e.sl.apart, e.sl.xs⟩⟩
  · obtain ⟨v, h1, h2⟩ := e.sl.val i d h
    exact ⟨v, h1, h2.write hp nz⟩
  · obtain ⟨q, h1, vs, h2, rl, nz', nη', h0'⟩ := e.sl.own i ds h
    have ne : q ≠ p := by rintro rfl; exact ha i ds h h1
    exact ⟨q, h1, vs, by rw [upd_ne ne]; exact h2, rl.write hp nz, nz', nη', h0'⟩
/-- an owned list stands apart from a new place -/
theorem Ct.Env.ownNe (e : c.Env σ r H Z η ω) (hp : H p = none) : ∀ (j : Nat) ds, r[j]? = some (.o ds) → σ[j]? ≠ some (some (.ref p)) := fun j ds h q => by
  obtain ⟨p', h1, vs, h2, _⟩ := e.sl.own j ds h
  rw [q] at h1
  cases h1
  rw [hp] at h2
  cases h2
/-! ### comprehensions -/
theorem wipe_get {j : Nat} : ∀ {is : List Nat} {σ : L2.St}, (wipe σ is)[j]? = if j ∈ is ∧ j < σ.length then some none else σ[j]?
  | [], σ => by simp [wipe]
  | i :: is, σ => by
    unfold wipe
    by_cases e : j = i
    · subst e
      by_cases hl : j < σ.length
      · rw [List.getElem?_set_self (by rw [wipe_length]; exact hl), if_pos ⟨by simp, hl⟩]
      · rw [List.getElem?_eq_none (by simp [wipe_length]; omega), if_neg (fun h => hl h.2)]
        rw [List.getElem?_eq_none (by omega)]
    · rw [List.getElem?_set_ne (Ne.symm e), wipe_get]
      simp [e]
theorem wipe_again {is : List Nat} {σ σ2 : L2.St} (hl : σ2.length = σ.length) (h : ∀ (i : Nat), i ∉ is → σ2[i]? = (wipe σ is)[i]?) : wipe σ2 is = wipe σ is := by
  apply List.ext_getElem?
  intro j
  rw [wipe_get, wipe_get, hl]
  by_cases hj : j ∈ is
  · by_cases hlt : j < σ.length
    · simp [hj, hlt]
    · simp only [hj, hlt, and_false, if_false]
      rw [List.getElem?_eq_none (by omega), List.getElem?_eq_none (by omega)]
  · simp only [hj, false_and, if_false]
    rw [h j hj, wipe_get]
    simp [hj]
theorem Ct.Env.wipe (e : c.Env σ r H Z η ω) (t : Py.Tgt) : c.Env (L2.wipe σ (tgtIs t)) (Py.wipeT r t) H Z η ω := by
  have go : ∀ is : List Nat, c.Env (L2.wipe σ is) (is.foldr (fun i r => r.set i .none) r) H Z η ω := fun is => by
    induction is with
    | nil => exact e
    | cons i is ih => exact ih.setN
  cases t with
  | nm i => exact go [i]
  | tp is => exact go is
/-- a comprehension's turn -/
def cStep (t : Py.Tgt) (mt : Py.Env → Py.M Bool) (me : Py.Env → Py.M Py.D) (r : Py.Env) (x : Py.D) : Py.M (Option Py.D) :=
  Py.noexc (Py.bnd (Py.lif (Py.bindT (Py.wipeT r t) t x)) fun r' => Py.bnd (mt r') fun k => if k = true then Py.bnd (me r') fun y => Py.ret (some y) else Py.ret none)
abbrev Ct.still (c : Ct) : Ct := { c with W := fun _ _ _ _ => False }
theorem compM_noexc {t : Py.Tgt} {mt : Py.Env → Py.M Bool} {me : Py.Env → Py.M Py.D} {r : Py.Env} : ∀ {xs : List Py.D} {ω : Py.Store} {x : Nat} {ω' : Py.Store}, Py.compM xs (cStep t mt me r) ω ≠ .exc x ω'
  | [], ω, x, ω' => by simp [Py.compM, Py.ret]
  | d :: xs, ω, x, ω' => by
    simp only [Py.compM, Py.bnd]
    cases h1 : cStep t mt me r d ω with
    | stuck => simp
    | exc y w =>
      exfalso
      unfold cStep Py.noexc at h1
      split at h1 <;> cases h1
    | ok o w =>
      simp only
      have ih := compM_noexc (t := t) (mt := mt) (me := me) (r := r) (xs := xs) (ω := w) (x := x) (ω' := ω')
      cases h2 : Py.compM xs (cStep t mt me r) w with
      | stuck => simp
      | exc y w2 =>
        simp only
        rw [h2] at ih
        exact ih
      | ok ys w2 => simp [Py.ret]
theorem cStep_ok {t : Py.Tgt} {mt : Py.Env → Py.M Bool} {me : Py.Env → Py.M Py.D} {d : Py.D} {o : Option Py.D} {ω' : Py.Store} (h : cStep t mt me r d ω = .ok o ω') :
    ∃ r' k ωk, Py.bindT (Py.wipeT r t) t d = some r' ∧ mt r' ω = .ok k ωk ∧ ((k = true ∧ ∃ y, me r' ωk = .ok y ω' ∧ o = some y) ∨ (k = false ∧ o = none ∧ ω' = ωk)) := by
  unfold cStep Py.noexc at h
  cases hb : Py.bindT (Py.wipeT r t) t d with
  | none => rw [hb] at h; simp [Py.lif, Py.bnd, Py.fail] at h
  | some r' =>
    rw [hb] at h
    simp only [Py.lif_some, Py.bnd_ret] at h
    simp only [Py.bnd] at h
    cases hm : mt r' ω with
    | stuck => rw [hm] at h; simp at h
    | exc x w => rw [hm] at h; simp at h
    | ok k ωk =>
      rw [hm] at h
      cases k with
      | false =>
        simp only [Bool.false_eq_true, if_false, Py.ret] at h
        cases h
        exact ⟨r', false, ω', rfl, hm, .inr ⟨rfl, rfl, rfl⟩⟩
      | true =>
        simp only [if_true, Py.bnd] at h
        cases hy : me r' ωk with
        | stuck => rw [hy] at h; simp at h
        | exc x w => rw [hy] at h; simp at h
        | ok y w =>
          rw [hy] at h
          simp only [Py.ret] at h
          cases h
          exact ⟨r', true, ωk, rfl, hm, .inl ⟨rfl, y, hy, rfl⟩⟩
/-- THE COMPREHENSION: from its data to the layer's reading -/
theorem comp_t {t : Py.Tgt} {mi : Py.Env → Py.M (List Py.D)} {mt : Py.Env → Py.M Bool} {me : Py.Env → Py.M Py.D} {Q : VK} (h : tE c .frs (fun r => Py.bnd (mi r) fun xs => Py.bnd (Py.compM xs (cStep t mt me r)) fun ys => Py.ret (.lst ys)) σ H Q) : tLc (tI c false mi) (gOf c.X.K t) (tT c.still mt) (tE c.still .val me) (tgtIs t) σ H Q := by
  obtain ⟨Z, η, ω, r, e, h⟩ := h
  refine ⟨Z, η, ω, r, e, ?_⟩
  simp only [Py.bnd] at h
  cases hm : mi r ω with
  | stuck => rw [hm] at h; exact h
  | exc x ω' => rw [hm] at h; exact h
  | ok ds ω1 =>
    rw [hm] at h
    intro J H1 Z1 η1 n1 hit D hD
    obtain ⟨P, S, ok, hP⟩ := hit
    dsimp only at h
    have e1 := e.step n1.s n1.w
    have hDz := Ct.WI.znone n1.w hD
    have hSD : ¬ S D := fun z => ok.sd hP D z hD
    have hown := Ct.Env.ownNe e1 hD
    have h0D : c.H0 D = none := by
      cases q : c.H0 D with
      | none => rfl
      | some u => exact absurd hD (e1.s0.there D (by rw [q]; simp))
    cases hc : Py.compM ds (cStep t mt me r) ω1 with
    | stuck => rw [hc] at h; exact h.elim
    | exc x ω' => exact absurd hc compM_noexc
    | ok zs0 ωf0 =>
      rw [hc] at h
      replace h : ∀ v H' Z' η', c.Nx H Z η H' Z' η' ωf0 → ResR c .frs r σ H H' Z' η' v (.lst zs0) → Q v H' := h
      let Inv : Nat → Hp → Prop := fun i Hh => ∃ Z2 η2 ω2 acc ys zs, c.Env σ r Hh Z2 η2 ω2 ∧ Step H Z η Hh Z2 η2 ∧ P Hh Z2 η2 ∧ Hh D = some (.lst acc) ∧ c.RepL Hh Z2 η2 acc ys ∧ ¬ Z2 D ∧ D ∉ η2 ∧ acc.length ≤ i ∧
        Py.compM (ds.drop i) (cStep t mt me r) ω2 = .ok zs ωf0 ∧ ys ++ zs = zs0
      refine ⟨fun i m Hh => m = ds.length - i ∧ i ≤ ds.length ∧ Inv i Hh, ⟨ds.length, by simp, Nat.zero_le _, ?_⟩, ?_⟩
      · have e2 : c.Env σ r (upd H1 D (.lst [])) Z1 η1 ω1 := e1.step (.new hD) (Ct.WI.new n1.w hD)
        exact ⟨Z1, η1, ω1, [], [], zs0, e2, n1.s.trans (.new hD), ok.step hP n1.w (.new hD), upd_same, .nil, hDz.1, hDz.2, Nat.le_refl _, hc, rfl⟩
      · rintro i m Hh ⟨rfl, hi, Z2, η2, ω2, acc, ys, zs, e2, s2, p2, hacc, rl, nz, nη, hlen, hrun, hall⟩
        by_cases hlt : i < ds.length
        · have hd : ds[i]? = some ds[i] := List.getElem?_eq_getElem hlt
          rw [List.drop_eq_getElem_cons hlt] at hrun
          simp only [Py.compM, Py.bnd] at hrun
          obtain ⟨hgo, hy⟩ := ok.go p2 e2.w hd
          cases hst : cStep t mt me r ds[i] ω2 with
          | stuck => rw [hst] at hrun; simp at hrun
          | exc x w => rw [hst] at hrun; simp at hrun
          | ok o ω3 =>
            rw [hst] at hrun
            simp only at hrun
            cases hrest : Py.compM (ds.drop (i + 1)) (cStep t mt me r) ω3 with
            | stuck => rw [hrest] at hrun; simp at hrun
            | exc x w => rw [hrest] at hrun; simp at hrun
            | ok zs1 ω4 =>
              rw [hrest] at hrun
              simp only [Py.ret] at hrun
              obtain ⟨r', kk, ωk, hb, hmt, hcase⟩ := cStep_ok hst
              refine .inr ⟨hgo, Inv (i + 1), fun H' p' => ⟨ds.length - (i + 1), by omega, rfl, hlt, p'⟩, fun x H' hyld => ?_⟩
              obtain ⟨s3, w3, rx⟩ := hy x H' hyld
              have e3 := e2.step s3 w3
              refine tu (c := c.still) (show c.still.Env _ _ H' Z2 η2 ω2 from Ct.Env.wipe e3 t) rx hb fun σ' e4 hk hl => ⟨wipe_again (by rw [hl, wipe_length]) hk, ?_⟩
              refine ⟨Z2, η2, ω2, r', e4, ?_⟩
              rw [hmt]
              intro H3 Z3 η3 n3
              have e5 := e3.step n3.s n3.w
              have hacc3 : H3 D = some (.lst acc) := n3.s.keep _ _ (s3.keep _ _ hacc nη) nη
              have stepD : ∀ {Ha Hb : Hp} {Za Zb : Addr → Prop} {ηa ηb : List Addr}, Step Ha Za ηa Hb Zb ηb → Ha D ≠ none → ¬ Za D → D ∉ ηa → ¬ Zb D ∧ D ∉ ηb := fun {Ha Hb Za Zb ηa ηb} s hn hz hη => by
                refine ⟨fun z => ?_, fun m => ?_⟩
                · rcases s.nz D z with q | q
                  · exact hz q
                  · exact hn q
                · obtain ⟨l, rfl, hl⟩ := s.eta
                  rcases List.mem_append.mp m with q | q
                  · exact hη q
                  · exact hn (hl D q)
              have hH' : H' D = some (.lst acc) := s3.keep _ _ hacc nη
              obtain ⟨nz3, nη3⟩ := stepD n3.s (by rw [hH']; simp) nz nη
              have p3 := ok.step (ok.step p2 e2.w s3) w3 n3.s
              rcases hcase with ⟨rfl, y, hme, rfl⟩ | ⟨rfl, rfl, rfl⟩
              · rw [if_pos rfl]
                refine ⟨Z3, η3, ωk, r', e4.step n3.s n3.w, ?_⟩
                rw [hme]
                intro v H4 Z4 η4 n4 q4
                have hacc4 : H4 D = some (.lst acc) := n4.s.keep _ _ hacc3 nη3
                obtain ⟨nz4, nη4⟩ := stepD n4.s (by rw [hacc3]; simp) nz3 nη3
                have hz : acc.length < sizeLine := by
                  have := ok.len
                  rw [← lim_eq]
                  omega
                refine ⟨acc, hacc4, hz, ?_⟩
                have e6 := e5.step n4.s n4.w
                have s6 := ((s2.trans s3).trans n3.s).trans n4.s
                have hHD : H D = none := n1.none hD
                have p4 := ok.step p3 n3.w n4.s
                have rl4 := n4.s.repL n3.w (n3.s.repL w3 (s3.repL e2.w rl))
                refine ⟨Z4, η4, ω3, acc ++ [v], ys ++ [y], zs1, Ct.Env.write e6 hacc4 nz4 nη4 h0D hown, s6.write hacc4 hHD, ok.wr p4 hacc4 nz4 hSD, upd_same, ((rl4.append (.one q4)).write hacc4 nz4), nz4, nη4, by simp; omega, ?_, ?_⟩
                · simp only at hrun
                  cases hrun
                  exact hrest
                · simp only at hrun
                  cases hrun
                  rw [← hall]
                  simp
              · rw [if_neg (by decide)]
                refine ⟨Z3, η3, ω3, acc, ys, zs1, e5, (s2.trans s3).trans n3.s, p3, hacc3, n3.s.repL w3 (s3.repL e2.w rl), nz3, nη3, by omega, ?_, ?_⟩
                · simp only at hrun
                  cases hrun
                  exact hrest
                · simp only at hrun
                  cases hrun
                  exact hall
        · have hie : i = ds.length := by omega
          refine .inl ⟨ok.stop p2 (by omega), ?_⟩
          rw [hie, List.drop_length] at hrun
          simp only [Py.compM, Py.ret] at hrun
          cases hrun
          rw [List.append_nil] at hall
          subst hall
          exact h (.ref D) Hh Z2 η2 ⟨s2, e2.w⟩ (.inl ⟨D, acc, ys, rfl, rfl, n1.none hD, hacc, rl, nz, nη⟩)
end
end PyS

end
section
namespace PyS
open PySem PySem.Spec PyProof.Rows L2
/-! ### statements -/
def postS (c : Ct) (H : Hp) (Z : Addr → Prop) (η : List Addr) (D : Ends) (res : Py.SRes) : Prop := match res with
  | .nx r' ω' => ∀ σ' H' Z' η', c.Env σ' r' H' Z' η' ω' → Grow H Z η H' Z' η' → D.nx σ' H'
  | .rt d ω' => ∀ v H' Z' η', Step c.H0 c.Z0 c.η0 H' Z' η' → c.WI H' Z' η' ω' → c.Rep H' Z' η' v d → D.rt v H'
  | .ex x r' ω' => ∀ σ' H' Z' η' a, c.Env σ' r' H' Z' η' ω' → Grow H Z η H' Z' η' → c.eA x = some a → c.W (.ref a) none σ' H'
  | .stuck => False
def tS (c : Ct) (m : Py.Env → Py.SM) : TS := fun D σ H => ∃ Z η ω r, c.Env σ r H Z η ω ∧ postS c H Z η D (m r ω)
def JS (c : Ct) (st : Stmt) (m : Py.Env → Py.SM) : Prop := PS c.X st (tS c m)
def JSs (c : Ct) (st : List Stmt) (m : Py.Env → Py.SM) : Prop := PSs c.X st (tS c m)
theorem PS.imp {X : Cx} {st : Stmt} {t t' : TS} (h : PS X st t) (i : ∀ D σ H, t' D σ H → t D σ H) : PS X st t' := ⟨fun pins s σ H D I q => h.run pins s σ H D I (i D σ H q)⟩
theorem PSs.imp {X : Cx} {st : List Stmt} {t t' : TS} (h : PSs X st t) (i : ∀ D σ H, t' D σ H → t D σ H) : PSs X st t' := ⟨fun pins s σ H D I q => h.run pins s σ H D I (i D σ H q)⟩
section
variable {c : Ct} {k ka kb : Kd} {σ : L2.St} {r : Py.Env} {H H1 H2 : Hp} {Z Z1 : Addr → Prop} {η η1 : List Addr} {ω ω1 : Py.Store} {D : Ends} {v : V} {d : Py.D}
theorem postS.grow {res : Py.SRes} (h : postS c H Z η D res) (g : Grow H Z η H1 Z1 η1) : postS c H1 Z1 η1 D res := by
  cases res with
  | stuck => exact h
  | nx r' ω' => exact fun σ' H' Z' η' e g' => h σ' H' Z' η' e (g.trans g')
  | rt d ω' => exact h
  | ex x r' ω' => exact fun σ' H' Z' η' a e g' ha => h σ' H' Z' η' a e (g.trans g') ha
/-- an expression, then what is done with its value -/
theorem tS.bndE {m : Py.Env → Py.M Py.D} {f : Py.Env → Py.D → Py.SM} (h : tS c (fun r => Py.bndE r (m r) (f r)) D σ H) :
    tE c k m σ H (fun v H1 => ∃ Z η Z1 η1 ω0 ω1 r d, c.Env σ r H Z η ω0 ∧ c.Env σ r H1 Z1 η1 ω1 ∧ c.Nx H Z η H1 Z1 η1 ω1 ∧ ResR c k r σ H H1 Z1 η1 v d ∧ postS c H1 Z1 η1 D (f r d ω1)) := by
  obtain ⟨Z, η, ω, r, e, h⟩ := h
  refine ⟨Z, η, ω, r, e, ?_⟩
  unfold Py.bndE at h
  cases hm : m r ω with
  | stuck => simp only [hm] at h; exact h
  | exc x ω' =>
    simp only [hm] at h
    exact fun H' Z' η' a n ha => h σ H' Z' η' a (e.step n.s n.w) (n.s.grow e.w) ha
  | ok d ω' =>
    simp only [hm] at h
    intro v H1 Z1 η1 n q
    exact ⟨Z, η, Z1, η1, ω, ω', r, d, e, e.step n.s n.w, n, q, h.grow (n.s.grow e.w)⟩
theorem tS.bndB {m : Py.Env → Py.M Bool} {f : Py.Env → Bool → Py.SM} (h : tS c (fun r => Py.bndE r (m r) (f r)) D σ H) : tT c m σ H (fun b H1 => tS c (fun r => f r b) D σ H1) := by
  obtain ⟨Z, η, ω, r, e, h⟩ := h
  refine ⟨Z, η, ω, r, e, ?_⟩
  unfold Py.bndE at h
  cases hm : m r ω with
  | stuck => simp only [hm] at h; exact h
  | exc x ω' =>
    simp only [hm] at h
    exact fun H' Z' η' a n ha => h σ H' Z' η' a (e.step n.s n.w) (n.s.grow e.w) ha
  | ok d ω' =>
    simp only [hm] at h
    exact fun H1 Z1 η1 n => ⟨Z1, η1, ω', r, e.step n.s n.w, h.grow (n.s.grow e.w)⟩
theorem postS.lif {α : Type} {o : Option α} {f : α → Py.SM} (h : postS c H Z η D (Py.bndE r (Py.lif o) f ω)) : ∃ a, o = some a ∧ postS c H Z η D (f a ω) := by
  cases o with
  | none => exact h.elim
  | some a => exact ⟨a, rfl, h⟩
/-! ### blocks, if -/
theorem jss_nil : JSs c [] (fun r => Py.nextS r) := PSs.imp pss_nil fun D σ H ⟨Z, η, ω, r, e, h⟩ => h σ H Z η e .refl
theorem tS.seq {m1 m2 : Py.Env → Py.SM} (h : tS c (fun r => Py.seqS (m1 r) m2) D σ H) : tS c m1 { D with nx := tS c m2 D } σ H := by
  obtain ⟨Z, η, ω, r, e, h⟩ := h
  refine ⟨Z, η, ω, r, e, ?_⟩
  unfold Py.seqS at h
  cases hm : m1 r ω with
  | stuck => simp only [hm] at h; exact h
  | rt d ω' => simp only [hm] at h; exact h
  | ex x r' ω' => simp only [hm] at h; exact h
  | nx r' ω' =>
    simp only [hm] at h
    exact fun σ' H' Z' η' e' g => ⟨Z', η', ω', r', e', h.grow g⟩
theorem jss_cons {st : Stmt} {sts : List Stmt} {m1 m2 : Py.Env → Py.SM} (h1 : JS c st m1) (h2 : JSs c sts m2) : JSs c (st :: sts) (fun r => Py.seqS (m1 r) m2) :=
  PSs.imp (pss_cons h1 h2) fun D σ H h => h.seq
theorem js_if {t : Expr} {a b : List Stmt} {pos : Pos} {mt : Py.Env → Py.M Py.D} {ma mb : Py.Env → Py.SM} (ht : JB c .val t mt) (ha : JSs c a ma) (hb : JSs c b mb) :
    JS c (.If t a b pos) (fun r => Py.bndE r (Py.bnd (mt r) fun x => Py.lif (Py.tru x)) fun k => if k = true then ma r else mb r) := by
  refine PS.imp (ps_if ht.jt ha hb) fun D σ H h => tT.mono h.bndB fun b H1 h => ?_
  cases b with
  | true => exact h
  | false => exact h
/-! ### the simple ones -/
theorem tE.then {m : Py.Env → Py.M Py.D} {Q Q' : VK} (h : tE c k m σ H Q) (i : ∀ v H', Q v H' → Q' v H') : tE c k m σ H Q' := tE.mono h i
theorem js_exp {e : Expr} {pos : Pos} {m : Py.Env → Py.M Py.D} (he : JE c .val e m) (hs : swapsWith e none pos.line c.X.env = pure false) : JS c (.Expr e pos) (fun r => Py.bndE r (m r) fun _ => Py.nextS r) :=
  PS.imp (ps_expr he hs) fun D σ H h => tE.mono h.bndE fun v H1 ⟨Z, η, Z1, η1, ω0, ω1, r, d, e0, e, n, q, h⟩ => h σ H1 Z1 η1 e .refl
theorem js_ret {e : Expr} {pos : Pos} {m : Py.Env → Py.M Py.D} (he : JE c .val e m) : JS c (.Return (some e) pos) (fun r => Py.bndE r (m r) Py.retS) :=
  PS.imp (ps_ret he) fun D σ H h => tE.mono h.bndE fun v H1 ⟨Z, η, Z1, η1, ω0, ω1, r, d, e0, e, n, q, h⟩ => h v H1 Z1 η1 e.s0 e.w q
theorem js_retN {pos : Pos} : JS c (.Return none pos) (fun _ => Py.retS .non) :=
  PS.imp ps_retN fun D σ H ⟨Z, η, ω, r, e, h⟩ => h .non H Z η e.s0 e.w .non
/-- an owned list is no more written: it becomes a value -/
theorem Ct.Env.freeze {i : Nat} {ds : List Py.D} {p : Addr} (e : c.Env σ r H Z η ω) (hi : r[i]? = some (.o ds)) (hp : σ[i]? = some (some (.ref p))) :
    ∃ Z', c.WI H Z' η ω ∧ Step c.H0 c.Z0 c.η0 H Z' η ∧ c.Rep H Z' η (.ref p) (.lst ds) ∧ Grow H Z η H Z' η ∧ c.Env σ (r.set i (.v (.lst ds))) H Z' η ω := by
  obtain ⟨p', h1, vs, h2, rl, nz, nη, h0⟩ := e.sl.own i ds hi
  rw [hp] at h1
  cases h1
  have up : ∀ {vs : List V} {ds : List Py.D}, c.RepL H Z η vs ds → c.RepL H (fun b => Z b ∨ b = p) η vs ds := fun r => r.mono (fun _ _ h _ => h) (fun _ h => .inl h) ⟨[], by simp⟩
  have up1 : ∀ {v : V} {d : Py.D}, c.Rep H Z η v d → c.Rep H (fun b => Z b ∨ b = p) η v d := fun r => r.mono (fun _ _ h _ => h) (fun _ h => .inl h) ⟨[], by simp⟩
  have w' : c.WI H (fun b => Z b ∨ b = p) η ω := by
    refine ⟨fun b h => ?_, fun b h => ?_, e.w.ηd, e.w.nd, e.w.len, fun n xs q => ?_, e.w.nins, e.w.ndct⟩
    · rcases h with h | rfl
      · exact e.w.zη b h
      · exact nη
    · rcases h with h | rfl
      · exact e.w.zd b h
      · rw [h2]; simp
    · obtain ⟨a, us, k1, k2, k3⟩ := e.w.cell n xs q
      exact ⟨a, us, k1, k2, up k3⟩
  have s' : Step c.H0 c.Z0 c.η0 H (fun b => Z b ∨ b = p) η := ⟨e.s0.keep, e.s0.tups, e.s0.there, fun b h => .inl (e.s0.zz b h), fun b h => by
    rcases h with h | rfl
    · exact e.s0.nz b h
    · exact .inr h0, e.s0.eta⟩
  have rp : c.Rep H (fun b => Z b ∨ b = p) η (.ref p) (.lst ds) := .lst (.inr rfl) h2 (up rl)
  refine ⟨fun b => Z b ∨ b = p, w', s', rp, ⟨fun b o h _ => h, fun b h => .inl h, [], by simp⟩, w', s', ⟨by simpa using e.sl.len, fun j d h => ?_, fun j es h => ?_, fun j l es fs q h1 h2 h3 h4 => ?_, fun j n h => by
    rcases get_set h with ⟨rfl, hl, e1⟩ | ⟨hn, h⟩
    · cases e1
    · exact e.sl.xs j n h⟩⟩
  · rcases get_set h with ⟨rfl, hl, e1⟩ | ⟨hn, h⟩
    · cases e1
      exact ⟨_, hp, rp⟩
    · obtain ⟨v, k1, k2⟩ := e.sl.val j d h
      exact ⟨v, k1, up1 k2⟩
  · rcases get_set h with ⟨rfl, hl, e1⟩ | ⟨hn, h⟩
    · cases e1
    · obtain ⟨q, k1, us, k2, k3, k4, k5, k6⟩ := e.sl.own j es h
      refine ⟨q, k1, us, k2, up k3, fun z => ?_, k5, k6⟩
      rcases z with z | rfl
      · exact k4 z
      · exact hn (e.sl.apart j i es ds q h hi k1 hp)
  · rcases get_set h1 with ⟨e0, hl, e1⟩ | ⟨hn, k1⟩
    · cases e1
    · rcases get_set h2 with ⟨e0, hl, e1⟩ | ⟨hn2, k2⟩
      · cases e1
      · exact e.sl.apart j l es fs q k1 k2 h3 h4
theorem js_retO {i : Nat} {x : Str} {p pos : Pos} (hN : c.X.N[i]? = some x) (hv : Vis c.X.env.scope x) (hd : (x == ("__debug__" : Str)) = false) (hcd : (x == ("__classdict__" : Str)) = false) :
    JS c (.Return (some (.Name x p)) pos) (fun r => Py.bndE r (Py.lif (r.get i).own) fun xs => Py.retS (.lst xs)) := by
  refine PS.imp (ps_ret (pe_var hN hv hd hcd)) fun D σ H ⟨Z, η, ω, r, e, h⟩ => ?_
  obtain ⟨ds, h1, h⟩ := h.lif
  obtain ⟨q, h2, _⟩ := e.sl.own i ds (get_o h1)
  obtain ⟨Z', w', s', rp, _⟩ := Ct.Env.freeze e (get_o h1) h2
  exact ⟨.ref q, h2, h _ H Z' η s' w' rp⟩
/-- a ghost: from here on the list is a value -/
theorem jss_frz {i : Nat} {sts : List Stmt} {m2 : Py.Env → Py.SM} (h2 : JSs c sts m2) : JSs c sts (fun r => Py.seqS (Py.bndE r (Py.lif ((r.get i).own.map fun xs => r.set i (.v (.lst xs)))) Py.nextS) m2) := by
  refine PSs.imp h2 fun D σ H ⟨Z, η, ω, r, e, h⟩ => ?_
  replace h : postS c H Z η D (Py.seqS (Py.bndE r (Py.lif ((r.get i).own.map fun xs => r.set i (.v (.lst xs)))) Py.nextS) m2 ω) := h
  cases ho : (Py.Env.get r i).own with
  | none => rw [ho] at h; exact h.elim
  | some ds =>
    rw [ho] at h
    obtain ⟨q, h2, _⟩ := e.sl.own i ds (get_o ho)
    obtain ⟨Z', w', s', rp, g, e'⟩ := Ct.Env.freeze e (get_o ho) h2
    exact ⟨Z', η, ω, _, e', postS.grow (show postS c H Z η D (m2 _ ω) from h) g⟩
/-! ### stores -/
theorem js_asg {i : Nat} {x : Str} {e : Expr} {pos pos' : Pos} {m : Py.Env → Py.M Py.D} (hN : c.X.N.Nodup) (hi : c.X.N[i]? = some x) (hx : Loc c.X.env.scope x) (he : JE c .val e m) (hs : swapsWith e (some (.Name x pos')) pos.line c.X.env = pure false) (hf : c.X.fn x = true ∨ c.X.env.scope.names.lookup x = some .local) :
    JS c (.Assign [.Name x pos'] e pos) (fun r => Py.bndE r (m r) fun d => Py.nextS (r.set i (.v d))) :=
  PS.imp (ps_set hN hi hx he hs hf) fun D σ H h => tE.mono h.bndE fun v H1 ⟨Z, η, Z1, η1, ω0, ω1, r, d, e0, e, n, q, h⟩ => h _ H1 Z1 η1 (Ct.Env.setV e q) .refl
/-- a new list becomes slot i's own -/
theorem own_end {i : Nat} {Q : L2.St → Hp → Prop} {s : Py.Slot} {ω0 : Py.Store} (e0 : c.Env σ r H Z η ω0) (e : c.Env σ r H1 Z1 η1 ω1) (q : ResR c .frs r σ H H1 Z1 η1 v d) (hs : Py.slotOf true d = some s)
    (h : ∀ σ' H' Z' η', c.Env σ' (r.set i s) H' Z' η' ω1 → Grow H1 Z1 η1 H' Z' η' → Q σ' H') : Q (σ.set i (some v)) H1 := by
  rcases q with ⟨p, vs, ds, rfl, rfl, h0, h1, rl, nz, nη⟩ | ⟨_, hn⟩
  · cases hs
    have h0D : c.H0 p = none := by
      cases q : c.H0 p with
      | none => rfl
      | some u => exact absurd h0 (e0.s0.there p (by rw [q]; simp))
    exact h _ H1 Z1 η1 (Ct.Env.setO e ⟨vs, h1, rl, nz, nη, h0D⟩ fun j es _ hj => Ct.Env.ownNe e0 h0 j es hj) .refl
  · cases d <;> (try (cases hs; done))
    exact absurd rfl (hn _)
theorem js_own {i : Nat} {x : Str} {e : Expr} {pos pos' : Pos} {m : Py.Env → Py.M Py.D} (hN : c.X.N.Nodup) (hi : c.X.N[i]? = some x) (hx : Loc c.X.env.scope x) (he : JE c .frs e m) (hs : swapsWith e (some (.Name x pos')) pos.line c.X.env = pure false) (hf : c.X.fn x = true ∨ c.X.env.scope.names.lookup x = some .local) :
    JS c (.Assign [.Name x pos'] e pos) (fun r => Py.bndE r (Py.bnd (m r) fun d => Py.lif (Py.slotOf true d)) fun s => Py.nextS (r.set i s)) :=
  PS.imp (ps_set hN hi hx he hs hf) fun D σ H h => by
    have h : tS c (fun r => Py.bndE r (m r) fun d => Py.bndE r (Py.lif (Py.slotOf true d)) fun s => Py.nextS (r.set i s)) D σ H := by
      simpa only [Py.bndE_bnd] using h
    refine tE.mono h.bndE fun v H1 ⟨Z, η, Z1, η1, ω0, ω1, r, d, e0, e, n, q, h⟩ => ?_
    obtain ⟨s, h1, h⟩ := h.lif
    exact own_end e0 e q h1 h
/-! ### x = [.. for ..] on one line: the same, by another rule -/
theorem js_asgLc {i : Nat} {y : Str} {py : Pos} {elt tg iter : Expr} {ifs : List Expr} {scope : Scope} {own : List (Str × Nat)} {pos spos : Pos} {t : Py.Tgt} {mi : Py.Env → Py.M (List Py.D)} {mt : Py.Env → Py.M Bool} {me : Py.Env → Py.M Py.D} {m : Py.Env → Py.M Py.D}
    (hc : c.X.calm = true) (hN : c.X.N.Nodup) (hy : c.X.N[i]? = some y) (hyl : c.X.env.scope.names.lookup y = some .local)
    (hsw : swapsWith (.ListComp elt [⟨tg, iter, ifs, 0⟩] scope pos) (some (.Name y py)) spos.line c.X.env = pure true) (hi : JI c false tg iter mi) (ok : BlkOk c.X.N c.X.env.scope scope own) (hown : own.map (·.2) = tgtIs t)
    (hg : ∀ (s : Shared) (H : Hp) (C : Addr) (cl : List (Str × Addr)) (fp : List Addr), PG (c.X.blk s H scope (compEnvC scope cl C c.X.env) fp) tg (gOf c.X.K t))
    (ht : ∀ (s : Shared) (H : Hp) (C : Addr) (cl : List (Str × Addr)) (fp : List Addr), PTs (c.X.blk s H scope (compEnvC scope cl C c.X.env) fp) ifs (tT c.still mt))
    (he : ∀ (s : Shared) (H : Hp) (C : Addr) (cl : List (Str × Addr)) (fp : List Addr), PE (c.X.blk s H scope (compEnvC scope cl C c.X.env) fp) elt (tE c.still .val me)) (hs : ∀ x, foldedSetIterable iter c.X.env x = pure x)
    (hm : m = fun r => Py.bnd (mi r) fun xs => Py.bnd (Py.compM xs (cStep t mt me r)) fun ys => Py.ret (.lst ys)) :
    JS c (.Assign [.Name y py] (.ListComp elt [⟨tg, iter, ifs, 0⟩] scope pos) spos) (fun r => Py.bndE r (m r) fun d => Py.nextS (r.set i (.v d))) ∧
    JS c (.Assign [.Name y py] (.ListComp elt [⟨tg, iter, ifs, 0⟩] scope pos) spos) (fun r => Py.bndE r (Py.bnd (m r) fun d => Py.lif (Py.slotOf true d)) fun s => Py.nextS (r.set i s)) := by
  subst hm
  refine ⟨PS.imp (ps_setLc hc hN hy hyl hsw hi ok hg ht he hs) fun D σ H h => ?_, PS.imp (ps_setLc hc hN hy hyl hsw hi ok hg ht he hs) fun D σ H h => ?_⟩
  · rw [hown]
    exact comp_t (tE.weaken (tE.mono h.bndE fun v H1 ⟨Z, η, Z1, η1, ω0, ω1, r, d, e0, e, n, q, h⟩ => h _ H1 Z1 η1 (Ct.Env.setV e q) .refl))
  · have h : tS c (fun r => Py.bndE r (Py.bnd (mi r) fun xs => Py.bnd (Py.compM xs (cStep t mt me r)) fun ys => Py.ret (Py.D.lst ys)) fun d => Py.bndE r (Py.lif (Py.slotOf true d)) fun s => Py.nextS (r.set i s)) D σ H := by
      simpa only [Py.bndE_bnd] using h
    rw [hown]
    refine comp_t (tE.mono h.bndE fun v H1 ⟨Z, η, Z1, η1, ω0, ω1, r, d, e0, e, n, q, h⟩ => ?_)
    obtain ⟨s, h1, h⟩ := h.lif
    exact own_end e0 e q h1 h
end
end PyS

end
section
namespace PyS
open PySem PySem.Spec PyProof.Rows L2
section
variable {c : Ct} {k ka kb : Kd} {σ : L2.St} {r : Py.Env} {H H1 H2 : Hp} {Z Z1 : Addr → Prop} {η η1 : List Addr} {ω ω1 : Py.Store} {D : Ends} {v : V} {d : Py.D}
/-! ### for -/
theorem js_for {t : Py.Tgt} {tg iter : Expr} {body : List Stmt} {pos : Pos} {mi : Py.Env → Py.M (List Py.D)} {mb : Py.Env → Py.SM} (hp : PassesOwn (model c.X.prog c.X.w) c.X.A c.X.env c.X.xe) (hc : c.X.calm = true)
    (hi : JI c true tg iter mi) (hg : PG c.X tg (gOf c.X.K t)) (hb : JSs c body mb) (hs : ∀ x, foldedSetIterable iter c.X.env x = pure x) :
    JS c (.For tg iter body [] pos) (fun r => Py.bndE r (mi r) fun xs => Py.forS xs (fun r x => Py.bndE r (Py.lif (Py.bindT r t x)) fun r => mb r) r) := by
  refine PS.imp (ps_for hp hc hi hg hb hs) fun D σ H ⟨Z, η, ω, r, e, h⟩ => ?_
  refine ⟨Z, η, ω, r, e, ?_⟩
  unfold Py.bndE at h
  cases hm : mi r ω with
  | stuck => simp only [hm] at h; exact h
  | exc x ω' =>
    simp only [hm] at h
    exact fun H' Z' η' a n ha => h σ H' Z' η' a (e.step n.s n.w) (n.s.grow e.w) ha
  | ok ds ω1 =>
    simp only [hm] at h
    intro J H1 Z1 η1 n1 hit
    obtain ⟨P, S, ok, hP⟩ := hit
    have h := h.grow (n1.s.grow e.w)
    refine ⟨fun i m σ Hh => m = ds.length - i ∧ i ≤ ds.length ∧ ∃ Z2 η2 ω2 r2, c.Env σ r2 Hh Z2 η2 ω2 ∧ P Hh Z2 η2 ∧ postS c Hh Z2 η2 D (Py.forS (ds.drop i) (fun r x => Py.bndE r (Py.lif (Py.bindT r t x)) fun r => mb r) r2 ω2),
      ⟨ds.length, by simp, Nat.zero_le _, Z1, η1, ω1, r, e.step n1.s n1.w, hP, h⟩, ?_⟩
    rintro i m σ Hh ⟨rfl, hi, Z2, η2, ω2, r2, e2, p2, h2⟩
    by_cases hlt : i < ds.length
    · have hd : ds[i]? = some ds[i] := List.getElem?_eq_getElem hlt
      obtain ⟨hgo, hy⟩ := ok.go p2 e2.w hd
      rw [List.drop_eq_getElem_cons hlt] at h2
      simp only [Py.forS] at h2
      refine .inr ⟨hgo, fun σ' H' => ∃ Z3 η3 ω3 r3, c.Env σ' r3 H' Z3 η3 ω3 ∧ P H' Z3 η3 ∧ postS c H' Z3 η3 D (Py.forS (ds.drop (i + 1)) (fun r x => Py.bndE r (Py.lif (Py.bindT r t x)) fun r => mb r) r3 ω3),
        fun σ' H' hN => ⟨ds.length - (i + 1), by omega, rfl, hlt, hN⟩, fun x H' hyld => ?_⟩
      obtain ⟨s3, w3, rx⟩ := hy x H' hyld
      cases hbt : Py.bindT r2 t ds[i] with
      | none => rw [hbt] at h2; exact h2.elim
      | some r3 =>
        rw [hbt] at h2
        simp only [Py.lif_some, Py.bndE_ret] at h2
        have g3 := s3.grow e2.w
        have p3 := ok.grow rfl p2 g3
        refine tu (e2.step s3 w3) rx hbt fun σ' e4 _ _ => ?_
        refine ⟨Z2, η2, ω2, r3, e4, ?_⟩
        replace h2 := h2.grow g3
        unfold Py.seqS at h2
        cases hb : mb r3 ω2 with
        | stuck => rw [hb] at h2; exact h2
        | rt d ω' => rw [hb] at h2; exact h2
        | ex x r' ω' => rw [hb] at h2; exact h2
        | nx r' ω' =>
          rw [hb] at h2
          intro σ5 H5 Z5 η5 e5 g5
          exact ⟨Z5, η5, ω', r', e5, ok.grow rfl p3 g5, h2.grow g5⟩
    · have hie : i = ds.length := by omega
      rw [hie, List.drop_length] at h2
      exact .inl ⟨ok.stop p2 (by omega), h2 σ Hh Z2 η2 e2 .refl⟩
/-! ### while -/
theorem js_while {t : Expr} {body : List Stmt} {pos : Pos} {n : Nat} {mt : Py.Env → Py.M Py.D} {mb : Py.Env → Py.SM} (hp : PassesOwn (model c.X.prog c.X.w) c.X.A c.X.env c.X.xe) (ht : JB c .val t mt) (hb : JSs c body mb) :
    JS c (.While t body [] pos) (fun r => Py.whileS n mt mb r) := by
  refine PS.imp (ps_while hp ht.jt hb) fun D σ H ⟨Z, η, ω, r, e, h⟩ => ?_
  refine ⟨fun m σ Hh => ∃ Z2 η2 ω2 r2, c.Env σ r2 Hh Z2 η2 ω2 ∧ postS c Hh Z2 η2 D (Py.whileS m mt mb r2 ω2), ⟨n, Z, η, ω, r, e, h⟩, ?_⟩
  rintro m σ Hh ⟨Z2, η2, ω2, r2, e2, h2⟩
  cases m with
  | zero => exact h2.elim
  | succ m =>
    simp only [Py.whileS] at h2
    have h3 : tS c (fun r => Py.bndE r (asT mt r) fun k => if k = true then Py.seqS (mb r) (Py.whileS m mt mb) else Py.nextS r) D σ Hh := ⟨Z2, η2, ω2, r2, e2, h2⟩
    refine tT.mono h3.bndB fun b H1 h => ?_
    cases b with
    | false =>
      obtain ⟨Z3, η3, ω3, r3, e3, h⟩ := h
      exact h σ H1 Z3 η3 e3 .refl
    | true =>
      rw [if_pos rfl]
      refine ⟨fun σ' H' => ∃ Z2 η2 ω2 r2, c.Env σ' r2 H' Z2 η2 ω2 ∧ postS c H' Z2 η2 D (Py.whileS m mt mb r2 ω2), fun σ' H' hN => ⟨m, by omega, hN⟩, ?_⟩
      have h : tS c (fun r => Py.seqS (mb r) (Py.whileS m mt mb)) D σ H1 := h
      obtain ⟨Z3, η3, ω3, r3, e3, h⟩ := h
      refine ⟨Z3, η3, ω3, r3, e3, ?_⟩
      replace h : postS c H1 Z3 η3 D (Py.seqS (mb r3) (Py.whileS m mt mb) ω3) := h
      unfold Py.seqS at h
      cases hb : mb r3 ω3 with
      | stuck => rw [hb] at h; exact h
      | rt d ω' => rw [hb] at h; exact h
      | ex x r' ω' => rw [hb] at h; exact h
      | nx r' ω' =>
        rw [hb] at h
        intro σ5 H5 Z5 η5 e5 g5
        exact ⟨Z5, η5, ω', r', e5, h.grow g5⟩
/-! ### a list of one's own is written -/
theorem own_write {i : Nat} {ds ds' : List Py.D} {p : Addr} {us vs' : List V} (e : c.Env σ r H Z η ω) (hi : r[i]? = some (.o ds)) (hp : σ[i]? = some (some (.ref p))) (hH : H p = some (.lst us)) (rl : c.RepL H Z η vs' ds') :
    c.Env σ (r.set i (.o ds')) (upd H p (.lst vs')) Z η ω ∧ Grow H Z η (upd H p (.lst vs')) Z η := by
  obtain ⟨p', h1, vs, h2, rl0, nz, nη, h0⟩ := e.sl.own i ds hi
  rw [hp] at h1
  cases h1
  have hi' : i < r.length := (List.getElem?_eq_some_iff.mp hi).1
  refine ⟨⟨Ct.WI.write e.w hH nz nη, Step.write e.s0 hH h0, ⟨by simpa using e.sl.len, fun j d h => ?_, fun j es h => ?_, fun j l es fs q h1 h2 h3 h4 => ?_, fun j n h => by
    rcases get_set h with ⟨rfl, hl, e1⟩ | ⟨hn, h⟩
    · cases e1
    · exact e.sl.xs j n h⟩⟩, ⟨fun b o h z => ?_, fun _ h => h, [], by simp⟩⟩
  · rcases get_set h with ⟨rfl, hl, e1⟩ | ⟨hn, h⟩
    · cases e1
    · obtain ⟨v, k1, k2⟩ := e.sl.val j d h
      exact ⟨v, k1, k2.write hH nz⟩
  · rcases get_set h with ⟨rfl, hl, e1⟩ | ⟨hn, h⟩
    · cases e1
      exact ⟨p, hp, _, upd_same, rl.write hH nz, nz, nη, h0⟩
    · obtain ⟨q, k1, us', k2, k3, k4, k5, k6⟩ := e.sl.own j es h
      have ne : q ≠ p := by rintro rfl; exact hn (e.sl.apart j i es ds q h hi k1 hp)
      exact ⟨q, k1, us', by rw [upd_ne ne]; exact k2, k3.write hH nz, k4, k5, k6⟩
  · rcases get_set h1 with ⟨e0, hl, e1⟩ | ⟨hn, k1⟩
    · rcases get_set h2 with ⟨e3, hl2, e2⟩ | ⟨hn2, k2⟩
      · rw [e0, e3]
      · rw [e0] at h3 ⊢
        exact e.sl.apart i l ds fs q hi k2 h3 h4
    · rcases get_set h2 with ⟨e3, hl2, e2⟩ | ⟨hn2, k2⟩
      · rw [e3] at h4 ⊢
        exact e.sl.apart j i es ds q k1 hi h3 h4
      · exact e.sl.apart j l es fs q k1 k2 h3 h4
  · rw [upd_ne]
    · exact h
    · rintro rfl
      rcases z with z | ⟨xs, rfl⟩
      · exact nz z
      · rw [hH] at h; cases h
theorem swaps_call {f : Expr} {es : List Expr} {ks : List Keyword} {p : Pos} {t : Option Expr} {l : Nat} {env : PySem.Env} : swapsWith (.Call f es ks p) t l env = pure false := rfl
theorem js_app {i : Nat} {x : Str} {e : Expr} {p1 apos cpos pos : Pos} {m : Py.Env → Py.M Py.D} (hN : c.X.N[i]? = some x) (hv : Vis c.X.env.scope x) (hd : (x == ("__debug__" : Str)) = false) (hcd : (x == ("__classdict__" : Str)) = false)
    (he : JE c .val e m) (hs : starEach [e] c.X.env = [(false, eval e c.X.env)]) (hline : (apos.endLine == cpos.line) = true) :
    JS c (.Expr (.Call (.Attribute (.Name x p1) "append" apos) [e] [] cpos) pos) (fun r => Py.bndE r (Py.bnd (Py.lif (r.get i).own) fun xs => Py.bnd (m r) fun d => Py.lif (if xs.length < Py.LIM then some (r.set i (.o (xs ++ [d]))) else none)) Py.nextS) := by
  have hfew : ((backTo cpos (starEach [e] c.X.env)).all (fun x => !x.1) && (backToKw cpos (keywordEach [] c.X.env)).all (fun x => x.1.isSome) && decide (([e] : List Expr).length + ([] : List Keyword).length + (if ([] : List Keyword).isEmpty then 0 else 1) < 30)) = true := by
    rw [hs]; rfl
  refine PS.imp (ps_expr (pe_bm PySem.F.plainAttrs_list PySem.F.slot_list_append PySem.F.type_list_append mt_append (pe_var hN hv hd hcd) (pa_cons he pa_nil hs) (by rfl) hfew hline hs (by rfl)) swaps_call) fun D σ H ⟨Z, η, ω, r, en, h⟩ => ?_
  try dsimp only at h
  rw [Py.bndE_bnd] at h
  obtain ⟨ds, h1, h⟩ := h.lif
  obtain ⟨p, h2, vs, h3, rl, nz, nη, h0⟩ := en.sl.own i ds (get_o h1)
  refine ⟨.ref p, h2, .inl ⟨rfl, vs, .of h3⟩, Z, η, ω, r, en, ?_⟩
  try dsimp only at h
  rw [Py.bndE_bnd] at h
  unfold Py.bndE at h
  cases hm : m r ω with
  | stuck => simp only [hm] at h; exact h
  | exc x ω' =>
    simp only [hm] at h
    exact fun H' Z' η' a n ha => h σ H' Z' η' a (en.step n.s n.w) (n.s.grow en.w) ha
  | ok d ω' =>
    simp only [hm] at h
    intro v H1 Z1 η1 n q
    have e1 := en.step n.s n.w
    obtain ⟨p', h2', vs', h3', rl', nz', nη', h0'⟩ := e1.sl.own i ds (get_o h1)
    rw [h2] at h2'
    cases h2'
    by_cases hl : ds.length < Py.LIM
    · rw [if_pos hl] at h
      replace h : postS c H Z η D (.nx (r.set i (.o (ds ++ [d]))) ω') := h
      have rl2 := rl'.append (.one (show c.Rep H1 Z1 η1 v d from q))
      obtain ⟨e2, g2⟩ := own_write e1 (get_o h1) h2 h3' rl2
      exact ⟨p, vs', v, rfl, rfl, h3', by rw [rl'.length, ← lim_eq]; exact hl, h σ _ Z1 η1 e2 ((n.s.grow en.w).trans g2)⟩
    · rw [if_neg hl] at h
      exact h.elim
theorem js_ext {i : Nat} {x : Str} {e : Expr} {p1 apos cpos pos : Pos} {m : Py.Env → Py.M Py.D} (hN : c.X.N[i]? = some x) (hv : Vis c.X.env.scope x) (hd : (x == ("__debug__" : Str)) = false) (hcd : (x == ("__classdict__" : Str)) = false)
    (he : JE c k e m) (hs : starEach [e] c.X.env = [(false, eval e c.X.env)]) (hline : (apos.endLine == cpos.line) = true) :
    JS c (.Expr (.Call (.Attribute (.Name x p1) "extend" apos) [e] [] cpos) pos) (fun r => Py.bndE r (Py.bnd (Py.lif (r.get i).own) fun xs => Py.bnd (m r) fun d => Py.lif ((Py.lstD d).bind fun ys => if xs.length + ys.length ≤ Py.LIM then some (r.set i (.o (xs ++ ys))) else none)) Py.nextS) := by
  have hfew : ((backTo cpos (starEach [e] c.X.env)).all (fun x => !x.1) && (backToKw cpos (keywordEach [] c.X.env)).all (fun x => x.1.isSome) && decide (([e] : List Expr).length + ([] : List Keyword).length + (if ([] : List Keyword).isEmpty then 0 else 1) < 30)) = true := by
    rw [hs]; rfl
  refine PS.imp (ps_expr (pe_bm PySem.F.plainAttrs_list PySem.F.slot_list_extend PySem.F.type_list_extend mt_extend (pe_var hN hv hd hcd) (pa_cons he pa_nil hs) (by rfl) hfew hline hs (by rfl)) swaps_call) fun D σ H ⟨Z, η, ω, r, en, h⟩ => ?_
  try dsimp only at h
  rw [Py.bndE_bnd] at h
  obtain ⟨ds, h1, h⟩ := h.lif
  obtain ⟨p, h2, vs, h3, rl, nz, nη, h0⟩ := en.sl.own i ds (get_o h1)
  refine ⟨.ref p, h2, .inl ⟨rfl, vs, .of h3⟩, Z, η, ω, r, en, ?_⟩
  try dsimp only at h
  rw [Py.bndE_bnd] at h
  unfold Py.bndE at h
  cases hm : m r ω with
  | stuck => simp only [hm] at h; exact h
  | exc x ω' =>
    simp only [hm] at h
    exact fun H' Z' η' a n ha => h σ H' Z' η' a (en.step n.s n.w) (n.s.grow en.w) ha
  | ok d ω' =>
    simp only [hm] at h
    intro v H1 Z1 η1 n q
    have e1 := en.step n.s n.w
    obtain ⟨p', h2', vs', h3', rl', nz', nη', h0'⟩ := e1.sl.own i ds (get_o h1)
    rw [h2] at h2'
    cases h2'
    cases d <;> (try exact h.elim)
    rename_i ys
    obtain ⟨b, us, rfl, g1, rl3⟩ := (q.view e1).lst
    by_cases hl : ds.length + ys.length ≤ Py.LIM
    · simp only [Py.lstD, Option.bind_some] at h
      rw [if_pos hl] at h
      replace h : postS c H Z η D (.nx (r.set i (.o (ds ++ ys))) ω') := h
      have rl2 := rl'.append rl3
      obtain ⟨e2, g2⟩ := own_write e1 (get_o h1) h2 h3' rl2
      exact ⟨p, b, vs', us, rfl, rfl, h3', g1, by rw [rl'.length, rl3.length, ← lim_eq]; exact hl, h σ _ Z1 η1 e2 ((n.s.grow en.w).trans g2)⟩
    · exfalso
      simp only [Py.lstD, Option.bind_some] at h
      rw [if_neg hl] at h
      exact h
theorem RepL.dropLast {K : PySem.W.Frag} {fA : Nat → Option Addr} {H : Hp} {Z : Addr → Prop} {η : List Addr} {vs : List V} {ds : List Py.D} (h : RepL K fA H Z η vs ds) : RepL K fA H Z η vs.dropLast ds.dropLast := by
  rw [List.dropLast_eq_take, List.dropLast_eq_take, h.length]
  exact h.take _
theorem RepL.last {K : PySem.W.Frag} {fA : Nat → Option Addr} {H : Hp} {Z : Addr → Prop} {η : List Addr} {vs : List V} {ds : List Py.D} {d : Py.D} (h : RepL K fA H Z η vs ds) (hd : ds.getLast? = some d) : ∃ v, vs[vs.length - 1]? = some v ∧ Rep K fA H Z η v d := by
  rw [List.getLast?_eq_getElem?] at hd
  obtain ⟨v, h1, h2⟩ := h.get hd
  exact ⟨v, by rw [h.length]; exact h1, h2⟩
theorem js_popA {i j : Nat} {x y : Str} {p1 py apos cpos pos : Pos} (hNd : c.X.N.Nodup) (hN : c.X.N[i]? = some x) (hv : Vis c.X.env.scope x) (hd : (x == ("__debug__" : Str)) = false) (hcd : (x == ("__classdict__" : Str)) = false)
    (hj : c.X.N[j]? = some y) (hy : Loc c.X.env.scope y) (hf : c.X.fn y = true ∨ c.X.env.scope.names.lookup y = some .local) (hline : (apos.endLine == cpos.line) = true) :
    JS c (.Assign [.Name y py] (.Call (.Attribute (.Name x p1) "pop" apos) [] [] cpos) pos) (fun r => Py.bndE r (Py.lif ((r.get i).own.bind fun xs => xs.getLast?.map fun d => (r.set i (.o xs.dropLast)).set j (.v d))) Py.nextS) := by
  refine PS.imp (ps_set hNd hj hy (pe_bm0 PySem.F.plainAttrs_list PySem.F.slot_list_pop PySem.F.type_list_pop mt_pop (pe_var hN hv hd hcd) (by rfl) hline) swaps_call hf) fun D σ H ⟨Z, η, ω, r, en, h⟩ => ?_
  obtain ⟨r', h1, h⟩ := h.lif
  obtain ⟨ds, h2, h3⟩ := Option.bind_eq_some_iff.mp h1
  obtain ⟨d, h4, rfl⟩ := Option.map_eq_some_iff.mp h3
  obtain ⟨p, k2, vs, k3, rl, nz, nη, h0⟩ := en.sl.own i ds (get_o h2)
  obtain ⟨v, k4, k5⟩ := rl.last h4
  obtain ⟨e2, g2⟩ := own_write en (get_o h2) k2 k3 rl.dropLast
  exact ⟨.ref p, k2, .inl ⟨rfl, vs, .of k3⟩, p, vs, v, rfl, rfl, k3, k4, h _ _ Z η (Ct.Env.setV e2 (k5.write k3 nz)) g2⟩
/-! ### several targets -/
theorem pg_any {X : Cx} {es : List Expr} {k n : Nat} {pos : Pos} {t : TGs} (hc : X.calm = true) (h : PGs X es t) (hn : (assignEach es X.env).length = n) (hst : (assignEach es X.env).findIdx? (·.1) = none) :
    PG X (.Tuple es k pos) (fun v σ H Q => gTup X.K n t v σ H Q ∨ gLst X.K n t v σ H Q) := by
  refine ⟨fun pins s σ H v u Q I r hw => ?_⟩
  rcases hw with hw | hw
  · exact (pg_tup hc h hn hst).run pins s σ H v u Q I r hw
  · exact (pg_lst hc h hn hst).run pins s σ H v u Q I r hw
theorem js_unp {is : List Nat} {es : List Expr} {e : Expr} {kk : Nat} {tpos pos : Pos} {m : Py.Env → Py.M Py.D} (hc : c.X.calm = true) (he : JE c .val e m) (hg : PGs c.X es (gNs is)) (hn : (assignEach es c.X.env).length = is.length) (hst : (assignEach es c.X.env).findIdx? (·.1) = none)
    (hs : swapsWithSole [.Tuple es kk tpos] e pos.line c.X.env = pure false) (hw : swappedStores [.Tuple es kk tpos] e c.X.env = pure none) :
    JS c (.Assign [.Tuple es kk tpos] e pos) (fun r => Py.bndE r (Py.bnd (m r) fun d => Py.lif ((Py.unpD d).bind fun ds => Py.setAll r is ds)) Py.nextS) := by
  refine PS.imp (ps_asg he (pg_any hc hg hn hst) hs hw (by rfl)) fun D σ H h => ?_
  have h : tS c (fun r => Py.bndE r (m r) fun d => Py.bndE r (Py.lif ((Py.unpD d).bind fun ds => Py.setAll r is ds)) Py.nextS) D σ H := by
    simpa only [Py.bndE_bnd] using h
  refine tE.mono h.bndE fun v H1 ⟨Z, η, Z1, η1, ω0, ω1, r, d, e0, e, n, q, h⟩ => ?_
  obtain ⟨r', h1, h5⟩ := h.lif
  obtain ⟨ds, h2, h3⟩ := Option.bind_eq_some_iff.mp h1
  cases d <;> (try (cases h2; done))
  · cases h2
    cases (show PyS.Rep c.X.K c.fA H1 Z1 η1 v (.tup ds) from q) with
    | tup g1 rl => exact .inl ⟨_, _, rfl, .of g1, by rw [rl.length]; exact (setAll_len h3).symm, tus e rl h3 fun σ' e' _ _ => h5 σ' H1 Z1 η1 e' .refl⟩
  · cases h2
    cases (show PyS.Rep c.X.K c.fA H1 Z1 η1 v (.lst ds) from q) with
    | lst z g1 rl => exact .inr ⟨_, _, rfl, .of g1, by rw [rl.length]; exact (setAll_len h3).symm, tus e rl h3 fun σ' e' _ _ => h5 σ' H1 Z1 η1 e' .refl⟩
end
end PyS

end
section
namespace PyS
open PySem PySem.Spec PyProof.Rows L2
section
variable {c : Ct} {k ka kb : Kd} {σ : L2.St} {r : Py.Env} {H H1 H2 : Hp} {Z Z1 : Addr → Prop} {η η1 : List Addr} {ω ω1 : Py.Store} {D : Ends} {v : V} {d : Py.D}
/-! ### [.. for .. in .. if ..] -/
theorem jb_comp {elt tg iter : Expr} {ifs : List Expr} {scope : Scope} {own : List (Str × Nat)} {pos : Pos} {t : Py.Tgt} {mi : Py.Env → Py.M (List Py.D)} {mt : Py.Env → Py.M Bool} {me : Py.Env → Py.M Py.D} {m : Py.Env → Py.M Py.D}
    (hc : c.X.calm = true) (hN : c.X.N.Nodup) (hi : JI c false tg iter mi) (ok : BlkOk c.X.N c.X.env.scope scope own) (hown : own.map (·.2) = tgtIs t)
    (hg : ∀ (s : Shared) (H : Hp) (C : Addr) (cl : List (Str × Addr)) (fp : List Addr), PG (c.X.blk s H scope (compEnvC scope cl C c.X.env) fp) tg (gOf c.X.K t))
    (ht : ∀ (s : Shared) (H : Hp) (C : Addr) (cl : List (Str × Addr)) (fp : List Addr), PTs (c.X.blk s H scope (compEnvC scope cl C c.X.env) fp) ifs (tT c.still mt))
    (he : ∀ (s : Shared) (H : Hp) (C : Addr) (cl : List (Str × Addr)) (fp : List Addr), PE (c.X.blk s H scope (compEnvC scope cl C c.X.env) fp) elt (tE c.still .val me)) (hs : ∀ x, foldedSetIterable iter c.X.env x = pure x)
    (hm : m = fun r => Py.bnd (mi r) fun xs => Py.bnd (Py.compM xs (cStep t mt me r)) fun ys => Py.ret (.lst ys)) :
    JB c .frs (.ListComp elt [⟨tg, iter, ifs, 0⟩] scope pos) m := by
  subst hm
  refine JB.plain (.inr rfl) (PE.imp (pe_lc hc hN hi ok hg ht he hs) fun σ H Q h => ?_) (fun whole => rfl)
  rw [hown]
  exact comp_t h
theorem cmp0_eq {t : Py.Tgt} {me : Py.Env → Py.M Py.D} {r : Py.Env} (x : Py.D) : (Py.noexc (Py.bnd (Py.lif (Py.bindT (Py.wipeT r t) t x)) fun r' => Py.bnd (me r') fun y => Py.ret (some y))) = cStep t (fun _ => Py.ret true) me r x := rfl
theorem cmpi_eq {t : Py.Tgt} {mt me : Py.Env → Py.M Py.D} {r : Py.Env} (x : Py.D) : (Py.noexc (Py.bnd (Py.lif (Py.bindT (Py.wipeT r t) t x)) fun r' => Py.bnd (mt r') fun k => Py.bnd (Py.lif (Py.tru k)) fun k => if k = true then Py.bnd (me r') fun y => Py.ret (some y) else Py.ret none)) = cStep t (asT mt) me r x := by
  unfold cStep asT
  congr 1
  congr 1
  funext r'
  funext ω
  simp only [Py.bnd]
  cases mt r' ω with
  | stuck => rfl
  | exc x w => rfl
  | ok d w => cases d <;> rfl
/-! ### raise -/
theorem js_rse {x msg : Str} {j n : Nat} {a : Addr} {p p2 pos pos' : Pos} (hc : c.X.calm = true) (tk : Takes c.X c.W) (he : c.eA n = some a) (q : PySem.W.excIn c.X.K a He.veBase "ValueError.__new__" = true) (gC : c.X.mg x = some (.ref a)) (kC : PySem.W.keepIn c.X.K (.ref a) = true)
    (h1 : PySem.W.subIn c.X.K (.ref a) (.type "BaseException") = some true) (h2 : PySem.W.typeIn c.X.K (.ref a) = some (.type "type")) (hg : Gl c.X x) (hdb : (x == ("__debug__" : Str)) = false) :
    JS c (.Raise (some (.Call (.Name x p) [.Constant (.str msg) j p2] [] pos)) none pos') (fun r => Py.rseS n r) :=
  PS.imp (ps_raise hc tk (pmk_own PySem.F.excBase_ValueError q gC kC (raises_own h1 h2) hg hdb)) fun D σ H ⟨Z, η, ω, r, e, h⟩ => h σ H Z η a e .refl he
/-! ### isinstance of the error at hand -/
theorem jb_ise {i n0 : Nat} {a D0 E : Addr} {x y : Str} {p p1 p2 pos : Pos} {sub : Nat → Bool} (hxa : c.xa = some (i, a, n0)) (cR : CallR c.X (.builtin "isinstance") (rIsE c.X.K D0 a))
    (hN : c.X.N[i]? = some x) (hv : Vis c.X.env.scope x) (hd : (x == ("__debug__" : Str)) = false) (hcd : (x == ("__classdict__" : Str)) = false)
    (hgy : Gl c.X y) (hmy : c.X.mg y = some (.ref E)) (hdy : (y == ("__debug__" : Str)) = false) (hk : PySem.W.kitOne c.X.K (.ref D0) (.ref E) = some (sub n0)) (hg : Gl c.X "isinstance") (hm : c.X.mg "isinstance" = none) :
    JB c .val (.Call (.Name "isinstance" p) [.Name x p1, .Name y p2] [] pos) (fun r => Py.lif ((r.get i).exc.map fun n => .bl (sub n))) := by
  refine JB.plain (.inl rfl) (PE.imp (pe_callB (t := tCons (tVar i) (tCons (tC (.ref E)) tNil)) cR hg hm rfl (pa_cons (pe_var hN hv hd hcd) (pa_cons (pe_glob hgy hmy rfl hdy) pa_nil)) (by decide) rfl rfl rfl) fun σ H Q ⟨Z, η, ω, r, e, h⟩ => ?_) (fun whole => rfl)
  cases hx : Py.Env.get r i with
  | x n =>
    simp only [hx, Py.Slot.exc, Option.map_some] at h
    have hr : r[i]? = some (.x n) := by
      unfold Py.Env.get at hx
      rw [List.getD_eq_getElem?_getD] at hx
      cases q : r[i]? with
      | none => rw [q] at hx; cases hx
      | some s => rw [q] at hx; simp only [Option.getD_some] at hx; rw [hx]
    obtain ⟨a', h1, h2⟩ := e.sl.xs i n hr
    rw [hxa] at h1
    cases h1
    exact ⟨_, h2, _, _, _, rfl, fun u hu => hu, hk, h (.bl (sub n0)) H Z η ⟨.refl, e.w⟩ (.bl _)⟩
  | none => simp only [hx, Py.Slot.exc] at h; exact h.elim
  | v d => simp only [hx, Py.Slot.exc] at h; exact h.elim
  | o d => simp only [hx, Py.Slot.exc] at h; exact h.elim
end
end PyS

end
section
namespace PyS
open PySem PySem.Spec PyProof.Rows L2
section
variable {c : Ct} {k ka kb : Kd} {σ : L2.St} {r : Py.Env} {H H1 H2 : Hp} {Z Z1 : Addr → Prop} {η η1 : List Addr} {ω ω1 : Py.Store} {D : Ends} {v : V} {d : Py.D}
/-! ### sorted, max, min of ints -/
theorem sortInts_eq {ns ms : List Int} (h1 : ms.Perm ns) (h2 : ms.Pairwise (· ≤ ·)) : ms = Py.sortInts ns := by
  unfold Py.sortInts
  refine List.Perm.eq_of_pairwise (le := fun a b : Int => a ≤ b) (fun a b _ _ h1 h2 => Int.le_antisymm h1 h2) h2 ?_ (h1.trans (List.mergeSort_perm _ _).symm)
  have := List.pairwise_mergeSort (le := fun a b : Int => decide (a ≤ b)) (fun a b c h1 h2 => by simp at *; omega) (fun a b => by simp; omega) ns
  exact this.imp fun h => of_decide_eq_true h
theorem repL_ints {Z : Addr → Prop} {η : List Addr} : ∀ ns : List Int, c.RepL H Z η (ns.map V.int) (ns.map Py.D.int)
  | [] => .nil
  | n :: ns => .cons (.int n) (repL_ints ns)
theorem cs_sortedI : CallS c (.builtin "sorted") Py.sortedID := by
  refine ⟨_, cr_sortedI, ?_⟩
  intro vs ds z H Z η ω Q w hv hg q
  unfold Py.sortedID at hg
  split at hg <;> first | (cases hg; done) | skip
  obtain ⟨v, rfl, hw⟩ := hv.one
  obtain ⟨ns, h1, rfl⟩ := Option.map_eq_some_iff.mp hg
  obtain ⟨a, vs, rfl, h2, rl⟩ := hw.lst
  obtain ⟨rfl, rfl⟩ := toInts_rep rl h1
  refine ⟨a, ns, rfl, .of h2, fun ms p hp hs hn => ?_⟩
  rw [sortInts_eq hp hs]
  exact q _ _ (.inl ⟨p, hn, .inl ⟨_, _, rfl, rfl, rfl, repL_ints _⟩⟩)
theorem cs_max1I (hc : c.X.calm = true) : CallS c (.builtin "max") Py.max1ID := by
  refine ⟨_, cr_max hc, ?_⟩
  intro vs ds z H Z η ω Q w hv hg q
  unfold Py.max1ID at hg
  split at hg <;> first | (cases hg; done) | skip
  obtain ⟨v, rfl, hw⟩ := hv.one
  obtain ⟨ns, h1, hg⟩ := Option.bind_eq_some_iff.mp hg
  obtain ⟨m, h3, rfl⟩ := Option.map_eq_some_iff.mp hg
  obtain ⟨a, vs, rfl, h2, rl⟩ := hw.lst
  obtain ⟨rfl, rfl⟩ := toInts_rep rl h1
  obtain ⟨k1, k2⟩ := List.max?_eq_some_iff.mp h3
  refine ⟨a, ns, rfl, .of h2, List.length_pos_of_mem k1, fun m' h4 h5 => ?_⟩
  have : m' = m := Int.le_antisymm (k2 _ h4) (h5 _ k1)
  subst this
  exact flat_out q (.int _) fun _ z => by cases z
theorem cs_min1I (hc : c.X.calm = true) : CallS c (.builtin "min") Py.min1ID := by
  refine ⟨_, cr_min hc, ?_⟩
  intro vs ds z H Z η ω Q w hv hg q
  unfold Py.min1ID at hg
  split at hg <;> first | (cases hg; done) | skip
  obtain ⟨v, rfl, hw⟩ := hv.one
  obtain ⟨ns, h1, hg⟩ := Option.bind_eq_some_iff.mp hg
  obtain ⟨m, h3, rfl⟩ := Option.map_eq_some_iff.mp hg
  obtain ⟨a, vs, rfl, h2, rl⟩ := hw.lst
  obtain ⟨rfl, rfl⟩ := toInts_rep rl h1
  obtain ⟨k1, k2⟩ := List.min?_eq_some_iff.mp h3
  refine ⟨a, ns, rfl, .of h2, List.length_pos_of_mem k1, fun m' h4 h5 => ?_⟩
  have : m' = m := Int.le_antisymm (h5 _ k1) (k2 _ h4)
  subst this
  exact flat_out q (.int _) fun _ z => by cases z
/-! ### xs.index(y) -/
theorem lstD_some {d : Py.D} {xs : List Py.D} (h : Py.lstD d = some xs) : d = .lst xs := by
  cases d <;> first | (cases h; rfl) | cases h
theorem toPys_get : ∀ {ys : List Py.D} {i : Nat} {y : Py.D}, ys[i]? = some y → (toPys ys)[i]? = some (toPy y)
  | [], i, y, h => by simp at h
  | y :: ys, 0, z, h => by simp at h; subst h; simp [toPys]
  | y :: ys, i + 1, z, h => by
    simp only [List.getElem?_cons_succ] at h
    simp only [toPys, List.getElem?_cons_succ]
    exact toPys_get h
theorem toPys_len : ∀ (ys : List Py.D), (toPys ys).length = ys.length
  | [] => rfl
  | y :: ys => by simp [toPys, toPys_len ys]
theorem jb_idx {a e : Expr} {apos cpos : Pos} {ma me : Py.Env → Py.M Py.D} (hr : c.X.A.units + 65 < cLine) (ha : JE c ka a ma) (he : JE c kb e me) (hbase : attributeBase a "index" c.X.env (eval a c.X.env) = eval a c.X.env) (hs : starEach [e] c.X.env = [(false, eval e c.X.env)])
    (hline : (apos.endLine == cpos.line) = true) :
    JB c .val (.Call (.Attribute a "index" apos) [e] [] cpos) (fun r => Py.bnd (ma r) fun x => Py.bnd (Py.lif (Py.lstD x)) fun xs => Py.bnd (me r) fun y => Py.lif (Py.indexD xs y)) := by
  refine .plain (.inl rfl) (PE.imp (pe_bm PySem.F.plainAttrs_list PySem.F.slot_list_index PySem.F.type_list_index (mt_indexD hr) ha (pa_cons he pa_nil hs) hbase (by rw [hs]; rfl) hline hs rfl) fun σ H Q q => ?_) (fun _ => rfl)
  refine tE.mono q.bnd fun v H1 ⟨Z, η, Z1, η1, ω1, r, d, e, s, rd, q⟩ => ?_
  replace q : post c .val σ r H Z η Q (Py.bnd (Py.lif (Py.lstD d)) (fun xs => Py.bnd (me r) fun y => Py.lif (Py.indexD xs y)) ω1) := q
  cases hl : Py.lstD d with
  | none => rw [hl] at q; exact q.elim
  | some xs =>
    rw [hl] at q
    have q : post c .val σ r H Z η Q (Py.bnd (me r) (fun y => Py.lif (Py.indexD xs y)) ω1) := q
    obtain rfl := lstD_some hl
    have vd := rd.view e
    obtain ⟨p0, us, rfl, hp, rl⟩ := vd.lst
    refine ⟨.inl ⟨rfl, _, .of hp⟩, ?_⟩
    have hm0 : Mid c .val ka σ H Q (fun r _ => Py.bnd (me r) fun y => Py.lif (Py.indexD xs y)) (.ref p0) H1 := ⟨Z, η, Z1, η1, ω1, r, _, e, s, rd, q⟩
    have hm2 : Mid c .val ka σ H Q (fun r x => Py.bnd (me r) fun y => Py.lif ((Py.lstD x).bind fun xs => Py.indexD xs y)) (.ref p0) H1 := ⟨Z, η, Z1, η1, ω1, r, _, e, s, rd, q⟩
    refine tE.mono (k := kb) hm2.bnd fun u H2 hx => ?_
    obtain ⟨Z, η, Z2, η2, ω2, r, d, e, y, e2, s2, vd, ve, hg, q⟩ := hx.pure (g := fun x y => (Py.lstD x).bind fun xs => Py.indexD xs y)
    obtain ⟨ys, h1, h2⟩ := Option.bind_eq_some_iff.mp hg
    obtain rfl := lstD_some h1
    unfold Py.indexD at h2
    split at h2
    case isFalse => cases h2
    case isTrue hs =>
      obtain ⟨i, h3, rfl⟩ := Option.map_eq_some_iff.mp h2
      rw [Bool.and_eq_true] at hs
      obtain ⟨k1, k2⟩ := ve.dp (shS_of hs.1)
      obtain ⟨k3, k4⟩ := vd.dp9 hs.2
      have hall : ∀ y ∈ ys, Py.shp 8 y = true := by simpa using hs.2
      obtain ⟨hi, h5, h6⟩ := List.findIdx?_eq_some_iff_getElem.mp h3
      refine ⟨p0, u, toPy e, toPys ys, i, toPy ys[i], rfl, rfl, k3, k1, k4, k2, toPys_get (List.getElem?_eq_getElem hi), ?_, fun m z' hm hz => ?_, q _ _ Z2 η2 ⟨s2, e2.w⟩ (.int _)⟩
      · rw [eqv_toPy _ _ 8 8 (hall _ (List.getElem_mem _)) hs.1]; exact h5
      · have hmy : m < ys.length := Nat.lt_trans hm hi
        rw [toPys_get (List.getElem?_eq_getElem hmy)] at hz
        cases hz
        rw [eqv_toPy _ _ 8 8 (hall _ (List.getElem_mem _)) hs.1]
        have := h6 m hm
        simpa using this
end
end PyS

end
section
namespace PyS
open PySem PySem.Spec PyProof.Rows L2
section
variable {c : Ct} {k ka kb : Kd} {σ : L2.St} {r : Py.Env} {H H1 H2 : Hp} {Z Z1 : Addr → Prop} {η η1 : List Addr} {ω ω1 : Py.Store} {D : Ends} {v : V} {d : Py.D}
/-! ### a, b = e, f -/
def pKs (ts : List (Bool × Nat)) : List Kd := ts.map fun t => if t.1 = true then .frs else .val
def setSt : L2.St → List (Bool × Nat) → List V → L2.St
  | σ, (_, i) :: ts, v :: vs => setSt (σ.set i (some v)) ts vs
  | σ, _, _ => σ
theorem par_end {r0 : Py.Env} {σ0 : L2.St} : ∀ {ts : List (Bool × Nat)} {vs : List V} {ds : List Py.D} {σ : L2.St} {r r' : Py.Env}, c.Env σ r H1 Z1 η1 ω1 → ResL c r0 σ0 H H1 Z1 η1 (pKs ts) vs ds → (frL (pKs ts) vs ds).Nodup →
    (∀ (j : Nat) es p, r[j]? = some (.o es) → σ[j]? = some (some (.ref p)) → V.ref p ∉ frL (pKs ts) vs ds) → (∀ p, V.ref p ∈ frL (pKs ts) vs ds → c.H0 p = none) → Py.setPar r ts ds = some r' → c.Env (setSt σ ts vs) r' H1 Z1 η1 ω1
  | [], vs, ds, σ, r, r', e, rl, nd, ap, h0, h => by
    cases ds with
    | cons _ _ => cases h
    | nil => cases h; exact e
  | (b, i) :: ts, vs, ds, σ, r, r', e, rl, nd, ap, h0, h => by
    cases ds with
    | nil => cases h
    | cons d ds =>
    cases vs with
    | nil => exact rl.elim
    | cons v vs =>
    obtain ⟨s, h1, h2⟩ := Option.bind_eq_some_iff.mp h
    cases b with
    | false =>
      cases h1
      have q : ResR c .val r0 σ0 H H1 Z1 η1 v d ∧ ResL c r0 σ0 H H1 Z1 η1 (pKs ts) vs ds := rl
      have fe : frL (pKs ((false, i) :: ts)) (v :: vs) (d :: ds) = frL (pKs ts) vs ds := rfl
      rw [fe] at nd ap h0
      show c.Env (setSt (σ.set i (some v)) ts vs) r' H1 Z1 η1 ω1
      refine par_end (Ct.Env.setV e q.1) q.2 nd (fun j es p hj hp => ?_) h0 h2
      rcases get_set hj with ⟨rfl, hl, e1⟩ | ⟨hn, hj⟩
      · cases e1
      · rw [List.getElem?_set_ne (Ne.symm hn)] at hp
        exact ap j es p hj hp
    | true =>
      have q : ResR c .frs r0 σ0 H H1 Z1 η1 v d ∧ ResL c r0 σ0 H H1 Z1 η1 (pKs ts) vs ds := rl
      cases d with
      | lst xs =>
        cases h1
        rcases q.1 with ⟨p, us, ds', e1, e2, n0, k1, k2, k3, k4⟩ | ⟨_, q2⟩
        case inr => exact absurd rfl (q2 xs)
        cases e1
        cases e2
        have fe : frL (pKs ((true, i) :: ts)) (V.ref p :: vs) (Py.D.lst xs :: ds) = V.ref p :: frL (pKs ts) vs ds := rfl
        rw [fe] at nd ap h0
        have nd' := List.nodup_cons.mp nd
        have apart : ∀ (j : Nat) es, j ≠ i → r[j]? = some (.o es) → σ[j]? ≠ some (some (.ref p)) := fun j es _ hj hp => ap j es p hj hp (by simp)
        show c.Env (setSt (σ.set i (some (.ref p))) ts vs) r' H1 Z1 η1 ω1
        refine par_end (Ct.Env.setO e ⟨us, k1, k2, k3, k4, h0 p (by simp)⟩ apart) q.2 nd'.2 (fun j es p' hj hp => ?_) (fun p' hm => h0 p' (by simp [hm])) h2
        rcases get_set hj with ⟨rfl, hl, e1⟩ | ⟨hn, hj⟩
        · rw [List.getElem?_set_self (by rw [← e.sl.len]; exact hl)] at hp
          cases hp
          exact nd'.1
        · rw [List.getElem?_set_ne (Ne.symm hn)] at hp
          exact fun hm => ap j es p' hj hp (by simp [hm])
      | _ => cases h1
theorem Ct.H0none (e : c.Env σ r H Z η ω) {p : Addr} (h : H p = none) : c.H0 p = none := by
  cases q : c.H0 p with
  | none => rfl
  | some o => exact absurd h (e.s0.there p (by rw [q]; simp))
theorem tS.args {ms : Py.Env → Py.M (List Py.D)} {f : Py.Env → List Py.D → Py.SM} {ks : List Kd} (h : tS c (fun r => Py.bndE r (ms r) (f r)) D σ H) :
    tA c ks ms σ H (fun vs H1 => ∃ Z η Z1 η1 ω0 ω1 r ds, c.Env σ r H Z η ω0 ∧ c.Env σ r H1 Z1 η1 ω1 ∧ ResL c r σ H H1 Z1 η1 ks vs ds ∧ (frL ks vs ds).Nodup ∧ postS c H1 Z1 η1 D (f r ds ω1)) := by
  obtain ⟨Z, η, ω, r, e, h⟩ := h
  refine ⟨Z, η, ω, r, e, ?_⟩
  unfold Py.bndE at h
  cases hm : ms r ω with
  | stuck => simp only [hm] at h; exact h
  | exc x ω' =>
    simp only [hm] at h
    exact fun H' Z' η' a n ha => h σ H' Z' η' a (e.step n.s n.w) (n.s.grow e.w) ha
  | ok ds ω' =>
    simp only [hm] at h
    intro vs H1 Z1 η1 n q nd
    exact ⟨Z, η, Z1, η1, ω, ω', r, ds, e, e.step n.s n.w, q, nd, h.grow (n.s.grow e.w)⟩
theorem par_in {ts : List (Bool × Nat)} {ms : Py.Env → Py.M (List Py.D)} (h : tS c (fun r => Py.bndE r (Py.bnd (ms r) fun ds => Py.lif (Py.setPar r ts ds)) Py.nextS) D σ H) : tA c (pKs ts) ms σ H (fun vs H1 => vs.length = ts.length ∧ D.nx (setSt σ ts vs) H1) := by
  have h : tS c (fun r => Py.bndE r (ms r) fun ds => Py.bndE r (Py.lif (Py.setPar r ts ds)) Py.nextS) D σ H := by
    simpa only [Py.bndE_bnd] using h
  refine tA.mono h.args fun vs H1 ⟨Z, η, Z1, η1, ω0, ω1, r, ds, e0, e, rl, nd, q⟩ => ?_
  obtain ⟨r', h1, q⟩ := q.lif
  refine ⟨by rw [(ResL.length rl).1]; simp [pKs], q _ H1 Z1 η1 (par_end e rl nd (fun j es p hj hp hm => ?_) (fun p hm => ?_) h1) .refl⟩
  · obtain ⟨p', e1, e2⟩ := frL_none rl _ hm
    cases e1
    exact Ct.Env.ownNe e0 e2 j es hj hp
  · obtain ⟨p', e1, e2⟩ := frL_none rl _ hm
    cases e1
    exact Ct.H0none e0 e2
theorem js_par2 {b1 b2 : Bool} {i j : Nat} {x y : Str} {e f : Expr} {px py pt pos : Pos} {kt k2 pt2} {ms : Py.Env → Py.M (List Py.D)} (hc : c.X.calm = true) (hN : c.X.N.Nodup) (hi : c.X.N[i]? = some x) (hj : c.X.N[j]? = some y) (hij : i ≠ j)
    (hx : c.X.env.scope.names.lookup x = some .local) (hy : c.X.env.scope.names.lookup y = some .local) (ha : JA c (pKs [(b1, i), (b2, j)]) [e, f] ms)
    (hw : swappedStores [.Tuple [.Name x px, .Name y py] kt pt] (.Tuple [e, f] k2 pt2) c.X.env = pure (some [x, y])) :
    JS c (.Assign [.Tuple [.Name x px, .Name y py] kt pt] (.Tuple [e, f] k2 pt2) pos) (fun r => Py.bndE r (Py.bnd (ms r) fun ds => Py.lif (Py.setPar r [(b1, i), (b2, j)] ds)) Py.nextS) := by
  refine PS.imp (ps_par hc hN hi hj hij hx hy ha hw rfl) fun D σ H h => tA.mono (par_in h) fun vs H1 ⟨hl, q⟩ => ?_
  match vs, hl with
  | [v, w], _ => exact ⟨v, w, rfl, q⟩
theorem js_par3 {b1 b2 b3 : Bool} {i j l : Nat} {x y z : Str} {e f g : Expr} {px py pz pt pos : Pos} {kt k2 pt2} {ms : Py.Env → Py.M (List Py.D)} (hc : c.X.calm = true) (hN : c.X.N.Nodup) (hi : c.X.N[i]? = some x) (hj : c.X.N[j]? = some y) (hl : c.X.N[l]? = some z) (hij : i ≠ j) (hil : i ≠ l) (hjl : j ≠ l)
    (hx : c.X.env.scope.names.lookup x = some .local) (hy : c.X.env.scope.names.lookup y = some .local) (hz : c.X.env.scope.names.lookup z = some .local) (ha : JA c (pKs [(b1, i), (b2, j), (b3, l)]) [e, f, g] ms)
    (hw : swappedStores [.Tuple [.Name x px, .Name y py, .Name z pz] kt pt] (.Tuple [e, f, g] k2 pt2) c.X.env = pure (some [x, y, z])) :
    JS c (.Assign [.Tuple [.Name x px, .Name y py, .Name z pz] kt pt] (.Tuple [e, f, g] k2 pt2) pos) (fun r => Py.bndE r (Py.bnd (ms r) fun ds => Py.lif (Py.setPar r [(b1, i), (b2, j), (b3, l)] ds)) Py.nextS) := by
  refine PS.imp (ps_par3 hc hN hi hj hl hij hil hjl hx hy hz ha hw rfl) fun D σ H h => tA.mono (par_in h) fun vs H1 ⟨hl, q⟩ => ?_
  match vs, hl with
  | [u, v, w], _ => exact ⟨u, v, w, rfl, q⟩
/-- .. not stored swapped: a tuple, then unpacked; values alone -/
theorem setPar_vals : ∀ (is : List Nat) (r : Py.Env) (ds : List Py.D), Py.setPar r (is.map fun i => (false, i)) ds = Py.setAll r is ds
  | [], r, [] => rfl
  | [], r, _ :: _ => rfl
  | _ :: _, r, [] => rfl
  | i :: is, r, d :: ds => by
    show (Py.slotOf false d).bind (fun s => Py.setPar (r.set i s) (is.map fun i => (false, i)) ds) = Py.setAll (r.set i (.v d)) is ds
    simp only [Py.slotOf, Bool.false_eq_true, if_false, Option.bind_some]
    exact setPar_vals is _ ds
theorem js_parN {is : List Nat} {es vs : List Expr} {kk k2 : Nat} {tpos tpos2 pos : Pos} {ms : Py.Env → Py.M (List Py.D)} {n : Nat} (hc : c.X.calm = true) (ha : JA c (vals n) vs ms) (hn1 : n ≤ 1000) (hg : PGs c.X es (gNs is)) (hn : (assignEach es c.X.env).length = is.length) (hst : (assignEach es c.X.env).findIdx? (·.1) = none)
    (hw : swappedStores [.Tuple es kk tpos] (.Tuple vs k2 tpos2) c.X.env = pure none) :
    JS c (.Assign [.Tuple es kk tpos] (.Tuple vs k2 tpos2) pos) (fun r => Py.bndE r (Py.bnd (ms r) fun ds => Py.lif (Py.setPar r (is.map fun i => (false, i)) ds)) Py.nextS) := by
  have h := js_unp hc (je_tup ha hn1 (x1 := k2) (pos := tpos2)).je hg hn hst rfl hw (pos := pos)
  have e : (fun r : Py.Env => Py.bndE r (Py.bnd (ms r) fun ds => Py.lif (Py.setPar r (is.map fun i => (false, i)) ds)) Py.nextS) = (fun r => Py.bndE r (Py.bnd (Py.bnd (ms r) fun xs => Py.ret (Py.D.tup xs)) fun d => Py.lif ((Py.unpD d).bind fun ds => Py.setAll r is ds)) Py.nextS) := by
    funext r
    simp only [Py.bnd_bnd, Py.bnd_ret, setPar_vals, Py.lif_some, Py.unpD, Option.bind_some]
  rw [e]
  exact h
end
end PyS

end
section
namespace PyS
open PySem PySem.Spec PyProof.Rows L2
section
variable {c : Ct} {k ka kb : Kd} {σ : L2.St} {r : Py.Env} {H H1 H2 : Hp} {Z Z1 : Addr → Prop} {η η1 : List Addr} {ω ω1 : Py.Store} {D : Ends} {v : V} {d : Py.D}
/-! ### try .. except X as e -/
abbrev Ct.hot (c : Ct) (X : Cx) (xa : Option (Nat × Addr × Nat)) : Ct := { c with X := X, xa := xa, W := fun _ _ _ _ => False }
abbrev Ct.trd (c : Ct) (X : Cx) (W : WX) : Ct := { c with X := X, W := W }
theorem PSs.ex {α : Type} {X : Cx} {st : List Stmt} {P : α → Prop} {t : α → TS} (h : ∀ a, P a → PSs X st (t a)) : PSs X st (fun D σ H => ∃ a, P a ∧ t a D σ H) := ⟨fun pins s σ H D I ⟨a, p, q⟩ => (h a p).run pins s σ H D I q⟩
theorem env_in {i n : Nat} {a : Addr} {X : Cx} (hX : X.K = c.X.K) (hxa : c.xa = none) (e : c.Env σ r H Z η ω) : (c.hot X (some (i, a, n))).Env (σ.set i (some (.ref a))) (r.set i (.x n)) H Z η ω := by
  have e0 := Ct.Env.setN e (i := i) (o := some (.ref a))
  unfold Ct.Env at *
  rw [show (c.hot X (some (i, a, n))).X.K = c.X.K from hX]
  refine ⟨e.w, e.s0, ⟨by simpa using e.sl.len, fun j d h => ?_, fun j ds h => ?_, fun j l ds es p h1 h2 h3 h4 => ?_, fun j m h => ?_⟩⟩
  · rcases get_set h with ⟨rfl, hl, e1⟩ | ⟨hn, h⟩
    · cases e1
    · exact e0.sl.val j d (by rw [List.getElem?_set_ne (Ne.symm hn)]; exact h)
  · rcases get_set h with ⟨rfl, hl, e1⟩ | ⟨hn, h⟩
    · cases e1
    · exact e0.sl.own j ds (by rw [List.getElem?_set_ne (Ne.symm hn)]; exact h)
  · rcases get_set h1 with ⟨rfl, hl, e1⟩ | ⟨hn, h1⟩
    · cases e1
    · rcases get_set h2 with ⟨rfl, hl, e1⟩ | ⟨hn2, h2⟩
      · cases e1
      · exact e0.sl.apart j l ds es p (by rw [List.getElem?_set_ne (Ne.symm hn)]; exact h1) (by rw [List.getElem?_set_ne (Ne.symm hn2)]; exact h2) h3 h4
  · rcases get_set h with ⟨rfl, hl, e1⟩ | ⟨hn, h⟩
    · cases e1
      exact ⟨a, rfl, by rw [List.getElem?_set_self (by rw [← e.sl.len]; exact hl)]⟩
    · obtain ⟨b, h1, _⟩ := e.sl.xs j m h
      rw [hxa] at h1
      cases h1
theorem env_out {i n : Nat} {a : Addr} {X : Cx} (hX : X.K = c.X.K) (e : (c.hot X (some (i, a, n))).Env σ r H Z η ω) : c.Env (σ.set i none) (r.set i .none) H Z η ω := by
  have e0 := Ct.Env.setN e (i := i) (o := none)
  unfold Ct.Env at *
  rw [show (c.hot X (some (i, a, n))).X.K = c.X.K from hX] at e0 e
  refine ⟨e0.w, e0.s0, ⟨e0.sl.len, e0.sl.val, e0.sl.own, e0.sl.apart, fun j m h => ?_⟩⟩
  rcases get_set h with ⟨rfl, hl, e1⟩ | ⟨hn, h⟩
  · cases e1
  · obtain ⟨b, h1, _⟩ := e.sl.xs j m h
    cases h1
    exact absurd rfl hn
def tHot (c : Ct) (i : Nat) (ms : Py.Env → Py.SM) (a : Addr) (cls : Value) (d : Option Addr) : TS := fun D σ H => ∃ n : Nat × Addr, (c.eA n.1 = some n.2 ∧ cls = .ref n.2 ∧ d = none) ∧ tS (c.hot c.X (some (i, a, n.1))) ms D σ H
theorem js_try {i : Nat} {x nm : Str} {C : Addr} {np pos pos' : Pos} {body suite : List Stmt} {b₀ : Stmt} {mb ms : Py.Env → Py.SM} (hs : c.X.stack = c.X.env :: c.X.outer) (hf : c.X.env.frame = some c.X.env.locals) (hN : c.X.N.Nodup) (hi : c.X.N[i]? = some nm)
    (hln : c.X.env.kindOf nm = some .local) (hc : Names c.X x (.ref C)) (tk : Takes c.X c.W) (hxa : c.xa = none) (hex : ∀ n a, c.eA n = some a → PySem.W.exmOne c.X.K (.ref a) (.ref C) = some true)
    (hb : ∀ (W : WX) (pn : List (Addr × Obj)) (xe : Value → Shared → Prop), Takes (c.X.tr pn xe) W → PassesOwn (model c.X.prog c.X.w) c.X.A c.X.env xe → JSs (c.trd (c.X.tr pn xe) W) body mb)
    (hsu : ∀ (a : Addr) (oe : Obj) (n : Nat) (C1 : Addr) (pn : List (Addr × Obj)), c.eA n = some C1 → Zc (.ref C1) none oe → (∃ vs, oe.data = .fields vs) → JSs (c.hot (c.X.suite a ((a, oe) :: pn)) (some (i, a, n))) (b₀ :: suite) ms) :
    JS c (.Try body [.ExceptHandler (some (.Name x np)) (some nm) (b₀ :: suite) pos'] [] [] pos) (fun r => Py.catchS mb (fun n r' => Py.seqS (ms (r'.set i (.x n))) (fun r => Py.nextS (r.set i .none))) r) := by
  refine PS.imp (ps_try_as (tb := fun W => tS (c.trd c.X W) mb) (ts := tHot c i ms) hs hf hN hi hln hc tk (fun W pn xe h1 h2 => hb W pn xe h1 h2) (fun a oe cls d pn hz hd => ⟨fun pins s σ H D I ⟨n, ⟨h1, h2, h3⟩, q⟩ => ?_⟩)) fun D σ H ⟨Z, η, ω, r, e, h⟩ => ⟨Z, η, ω, r, e, ?_⟩
  · subst h2 h3
    exact (hsu a oe n.1 n.2 pn h1 hz hd).run pins s σ H D I q
  · replace h : postS c H Z η D (Py.catchS mb (fun n r' => Py.seqS (ms (r'.set i (.x n))) (fun r => Py.nextS (r.set i .none))) r ω) := h
    unfold Py.catchS at h
    cases hm : mb r ω with
    | stuck => rw [hm] at h; exact h
    | nx r' ω' => rw [hm] at h; exact h
    | rt d ω' => rw [hm] at h; exact h
    | ex n r' ω' =>
      rw [hm] at h
      intro σ' H' Z' η' a e' g ha
      refine ⟨true, hex n a ha, fun _ a0 h0 => ⟨(n, a), ⟨ha, rfl, rfl⟩, Z', η', ω', r'.set i (.x n), env_in rfl hxa e', ?_⟩, fun z => by cases z⟩
      replace h : postS c H' Z' η' D (Py.calmS (Py.seqS (ms (r'.set i (.x n))) (fun r => Py.nextS (r.set i .none))) ω') := postS.grow h g
      unfold Py.calmS Py.seqS at h
      cases hm2 : ms (r'.set i (.x n)) ω' with
      | stuck => rw [hm2] at h; exact h.elim
      | nx r2 ω2 => rw [hm2] at h; exact fun σ2 H2 Z2 η2 e2 g2 => h _ H2 Z2 η2 (env_out rfl e2) g2
      | rt d ω2 => rw [hm2] at h; exact h
      | ex n2 r2 ω2 => rw [hm2] at h; exact h.elim
/-! ### a def at its place, as what it may be called for -/
structure FnAt (c : Ct) (φ : Nat → List Py.D → Py.M Py.D) (i : Nat) (a : Addr) (np : Nat) : Prop where
  ok : ∃ (j : Nat) (fd : FuncData) (ps : List Str), FnOk c.X.prog c.X.w c.X.K c.X.mg c.X.base (L2.CX c.X.prog c.X.w) j a fd ps (spF c.X.K c.fA c.eA np (φ i)) ∧ Room j c.X.A ∧ Binds c.X.K fd ps []
  kp : PySem.W.keepIn c.X.K (.ref a) = true
theorem fnD_some {d : Py.D} {i : Nat} (h : Py.fnD d = some i) : d = .fn i := by
  cases d <;> first | (cases h; rfl) | cases h
theorem jb_calv {fe e : Expr} {es : List Expr} {pos : Pos} {n : Nat} {mf : Py.Env → Py.M Py.D} {ms : Py.Env → Py.M (List Py.D)} {φ : Nat → List Py.D → Py.M Py.D} (hf : JE c k fe mf)
    (F : ∀ i a, c.fA i = some a → ∃ np, FnAt c φ i a np ∧ ∀ ds ω, ds.length ≠ np → φ i ds ω = .stuck) (tk : Takes c.X c.W) (ha : JA c (vals n) (e :: es) ms)
    (ht : eval (.Call fe (e :: es) [] pos) c.X.env = (do callWith pos (← eval fe c.X.env) [] (backTo pos (starEach (e :: es) c.X.env)) (backToKw pos (keywordEach [] c.X.env))))
    (he : starEach (e :: es) c.X.env = (false, eval e c.X.env) :: starEach es c.X.env) (hpl : (backTo pos (starEach es c.X.env)).any (·.1) = false) :
    JB c .val (.Call fe (e :: es) [] pos) (fun r => Py.bnd (mf r) fun x => Py.bnd (Py.lif (Py.fnD x)) fun f => Py.bnd (ms r) fun xs => φ f xs) := by
  refine .plain (.inl rfl) ⟨fun pins s σ H Q I h => ?_⟩ (fun _ => rfl)
  refine Call_ (thn (hf.run pins s σ H _ I h.bnd) fun u s1 ⟨y, H1, I1, ry, Z, η, Z1, η1, ω1, r, d, en, st, rd, q⟩ => ?_) ht
  replace q : post c .val σ r H Z η Q (Py.bnd (Py.lif (Py.fnD d)) (fun f => Py.bnd (ms r) fun xs => φ f xs) ω1) := q
  cases hd : Py.fnD d with
  | none => rw [hd] at q; exact q.elim
  | some i =>
    rw [hd] at q
    obtain rfl := fnD_some hd
    replace q : post c .val σ r H1 Z1 η1 Q (Py.bnd (ms r) (fun xs => φ i xs) ω1) := post.rebase q st
    have vd := rd.view en
    cases vd with
    | of rp =>
      cases rp with
      | fn hfa =>
        rename_i a
        obtain ⟨np, ⟨⟨j, fd, ps, ok, hr, hb⟩, kp⟩, hst⟩ := F i _ hfa
        cases ry
        have t1 : tA c (vals n) ms σ H1 (fun vs H1 => spF c.X.K c.fA c.eA np (φ i) vs H1 Q (WE c.W σ)) := by
          have t0 : tE c .val (fun r => Py.bnd (ms r) fun xs => φ i xs) σ H1 Q := ⟨Z1, η1, ω1, r, en, q⟩
          refine tA.mono t0.args fun vs H2 ⟨Z, η, Z2, η2, ω2, r, ds, ω0, hm, e, s, rl, _, q⟩ => ?_
          have hl : ds.length = np := by
            apply Classical.byContradiction
            intro hne
            rw [hst ds ω2 hne] at q
            exact q
          refine ⟨by rw [← hl, (ResL.length rl).1, (ResL.length rl).2], Z2, η2, ω2, ds, e.w, rl.rep, ?_⟩
          cases hmm : φ i ds ω2 with
          | stuck => rw [hmm] at q; exact q
          | exc x ω' => rw [hmm] at q; exact fun H' Z' η' a st w ha => q H' Z' η' a ⟨s.trans st, w⟩ ha
          | ok d ω' => rw [hmm] at q; exact fun v H' Z' η' st w r => q v H' Z' η' ⟨s.trans st, w⟩ r
        exact PySem.W.callWith_K (h₀ := c.X.base) I1.ok.mod.kin kp (thn (ha.run pos pins s1 σ H1 _ I1 t1) fun us s2 ⟨vs, H2, I2, r, q⟩ => ⟨I2.kIn, run_fnS ok hr hb (passAt tk σ) I2 r q⟩) he hpl
end
end PyS

end
section
namespace PyS
open PySem PySem.Spec PyProof.Rows L2
/-! ### the text against the compact syntax -/
structure Tb where
  N : List Str
  fs : List (Str × Nat)
  gs : List Str
  cs : List Str
  bl : List Str
  sub : Nat → Nat → Bool
structure Sc where
  sc : Scope
  fn : Str → Bool
  calm : Bool
  top : Bool
  hot : Option Nat
structure Fine (c : Ct) (T : Tb) (L : Py.Lk) (S : Sc) : Prop where
  sc : c.X.env.scope = S.sc
  N : c.X.N = T.N
  nd : T.N.Nodup
  fn : c.X.fn = S.fn
  un : c.X.A.units + 65 < cLine
  po : PassesOwn (model c.X.prog c.X.w) c.X.A c.X.env c.X.xe
  tk : Takes c.X c.W
  calm : S.calm = true → c.X.calm = true ∧ c.xa = none
  bl : ∀ x ∈ T.bl, c.X.mg x = none
  df : ∀ i x n, T.fs[i]? = some (x, n) → ∃ a, c.fA i = some a ∧ c.X.mg x = some (.ref a) ∧ (S.calm = true → FnAt c L.φ i a n)
  fa : ∀ i a, c.fA i = some a → ∃ x n, T.fs[i]? = some (x, n) ∧ c.X.mg x = some (.ref a)
  ln : ∀ i x n ds ω, T.fs[i]? = some (x, n) → ds.length ≠ n → L.φ i ds ω = .stuck
  gl : ∀ i x, T.gs[i]? = some x → ∃ v u, c.X.mg x = some u ∧ RelV v u ∧ ∀ H Z η, c.Rep H Z η v (L.g i)
  cl : ∀ n x, T.cs[n]? = some x → ∃ a, c.eA n = some a ∧ c.X.mg x = some (.ref a) ∧ PySem.W.excIn c.X.K a He.veBase "ValueError.__new__" = true ∧ PySem.W.keepIn c.X.K (.ref a) = true ∧ PySem.W.subIn c.X.K (.ref a) (.type "BaseException") = some true ∧ PySem.W.typeIn c.X.K (.ref a) = some (.type "type")
  sub : ∀ n m a b, c.eA n = some a → c.eA m = some b → PySem.W.kitOne c.X.K (.ref a) (.ref b) = some (L.sub n m) ∧ PySem.W.exmOne c.X.K (.ref a) (.ref b) = some (L.sub n m)
  ec : ∀ n a, c.eA n = some a → ExcC c.X.K a
  eb : ∀ n a, c.eA n = some a → n < T.cs.length
  top : S.top = true → c.X.stack = c.X.env :: c.X.outer ∧ c.X.env.frame = some c.X.env.locals
  hot : ∀ i, S.hot = some i → ∃ a n D0, c.xa = some (i, a, n) ∧ c.eA n = some D0 ∧ CallR c.X (.builtin "isinstance") (rIsE c.X.K D0 a)
  kind : S.sc.kind = .function
  sb : L.sub = T.sub
  th : S.top = true → S.hot = none

def okNm (x : Str) : Bool := !(x == ("__debug__" : Str)) && !(x == ("__classdict__" : Str))
def glB (S : Sc) (x : Str) : Bool := decide (S.sc.names.lookup x = some .globalImplicit) && !(x == ("__debug__" : Str))
def visB (S : Sc) (x : Str) : Bool := match S.sc.names.lookup x with
  | some .local => true
  | some .cell => true
  | some .free => true
  | _ => false
def locB (S : Sc) (x : Str) : Bool := match S.sc.names.lookup x with
  | some .local => true
  | some .cell => S.fn x
  | _ => false
def nmB (T : Tb) (S : Sc) (i : Nat) (x : Str) : Bool := decide (T.N[i]? = some x) && (visB S x && okNm x)
def tgB (T : Tb) (S : Sc) (i : Nat) (x : Str) : Bool := decide (T.N[i]? = some x) && locB S x
def notStar : Expr → Bool
  | .Starred .. => false
  | _ => true
def notSet : Expr → Bool
  | .Set .. => false
  | _ => true
def notComp : Expr → Bool
  | .ListComp .. => false
  | .SetComp .. => false
  | .DictComp .. => false
  | _ => true
def notSlice : Expr → Bool
  | .Slice .. => false
  | _ => true
def notCall : Expr → Bool
  | .Call .. => false
  | _ => true
section
variable {c : Ct} {T : Tb} {L : Py.Lk} {S : Sc} {x : Str} {i : Nat} {e : Expr} {es : List Expr} {env : PySem.Env}
theorem ba {a b : Bool} (h : (a && b) = true) : a = true ∧ b = true := Bool.and_eq_true_iff.mp h
theorem nb {a : Bool} (h : (!a) = true) : a = false := by cases a <;> first | rfl | cases h
theorem star_cons (h : notStar e = true) : starEach (e :: es) env = (false, eval e env) :: starEach es env := by cases e <;> first | rfl | cases h
theorem star_one (h : notStar e = true) : starEach [e] env = [(false, eval e env)] := star_cons h
theorem star_any {pos : Pos} : ∀ {es : List Expr}, es.all notStar = true → (backTo pos (starEach es env)).any (·.1) = false
  | [], _ => rfl
  | e :: es, h => by
    obtain ⟨h1, h2⟩ := ba (show (notStar e && es.all notStar) = true from h)
    rw [star_cons h1]
    show (false || (backTo pos (starEach es env)).any (·.1)) = false
    rw [star_any h2]
    rfl
theorem set_marks {op : CmpOp} (h : notSet e = true) : behindInMarks op e = false := by cases e <;> first | rfl | cases h
theorem set_fold (h : notSet e = true) : ∀ x, foldedSetIterable e env x = pure x := by cases e <;> first | exact fun _ => rfl | cases h
theorem comp_swaps {t : Option Expr} {l : Nat} (h : notComp e = true) : swapsWith e t l env = pure false := by cases e <;> first | rfl | cases h
theorem slice_plain (h : notSlice e = true) : PlainIx e := by cases e <;> first | exact fun _ _ => rfl | cases h
theorem call_base {n : Str} {w : Sem Value} (h : notCall e = true) : attributeBase e n env w = w := by cases e <;> first | rfl | cases h
theorem assign_each {t : Expr} {ts : List Expr} (h : notStar t = true) : assignEach (t :: ts) env = (false, assign t env) :: assignEach ts env := by cases t <;> first | rfl | cases h
theorem Fine.lk (F : Fine c T L S) (x : Str) : c.X.env.kindOf x = S.sc.names.lookup x := by
  show c.X.env.scope.names.lookup x = _
  rw [F.sc]
theorem Fine.glB (F : Fine c T L S) (h : glB S x = true) : Gl c.X x ∧ (x == ("__debug__" : Str)) = false := by
  obtain ⟨h1, h2⟩ := ba h
  exact ⟨(F.lk x).trans (of_decide_eq_true h1), nb h2⟩
theorem Fine.nmB (F : Fine c T L S) (h : nmB T S i x = true) : c.X.N[i]? = some x ∧ Vis c.X.env.scope x ∧ (x == ("__debug__" : Str)) = false ∧ (x == ("__classdict__" : Str)) = false := by
  obtain ⟨h1, h⟩ := ba h
  obtain ⟨h2, h3⟩ := ba h
  obtain ⟨h3, h4⟩ := ba h3
  refine ⟨by rw [F.N]; exact of_decide_eq_true h1, ?_, nb h3, nb h4⟩
  unfold visB at h2
  unfold Vis
  rw [F.sc]
  split at h2 <;> rename_i h <;> first | exact .inl h | exact .inr (.inl h) | exact .inr (.inr h) | cases h2
theorem Fine.tgB (F : Fine c T L S) (h : tgB T S i x = true) : c.X.N[i]? = some x ∧ Loc c.X.env.scope x ∧ (c.X.fn x = true ∨ c.X.env.scope.names.lookup x = some .local) := by
  obtain ⟨h1, h2⟩ := ba h
  refine ⟨by rw [F.N]; exact of_decide_eq_true h1, ?_⟩
  unfold locB at h2
  unfold L2.Loc
  rw [F.sc, F.fn]
  split at h2 <;> rename_i h <;> first | exact ⟨.inl h, .inr h⟩ | exact ⟨.inr h, .inl h2⟩ | cases h2
theorem Fine.ndX (F : Fine c T L S) : c.X.N.Nodup := by rw [F.N]; exact F.nd
end
/-! ### comprehensions' scopes -/
def relS (scope sc : Scope) : Scope := { scope with names := scope.names.map fun (n, k) => if (k == .free && sc.kind == .function && sc.names.lookup n == some .cell) then (n, .cell) else (n, k) }
theorem relS_eq (scope : Scope) (env : PySem.Env) : relabel scope env = relS scope env.scope := rfl
def ownOf (T : Tb) (t : Py.Tgt) : List (Str × Nat) := (tgtIs t).map fun i => (T.N.getD i default, i)
def blkB (T : Tb) (S : Sc) (scope : Scope) (t : Py.Tgt) : Bool :=
  decide (scope.kind = .function) && (scope.names.all (fun y => decide (scope.names.lookup y.1 = some y.2)) && ((ownOf T t).all (fun p => decide (T.N[p.2]? = some p.1)) &&
    (scope.names.all (fun y => !decide (y.2 = .free) || (decide (S.sc.names.lookup y.1 = some .cell) || decide (S.sc.names.lookup y.1 = some .free))) &&
      scope.names.all (fun y => !(decide (y.2 = .local) || decide (y.2 = .cell)) || (((ownOf T t).map (·.1)).contains y.1 || !T.N.contains y.1)))))
theorem own_is (T : Tb) (t : Py.Tgt) : (ownOf T t).map (·.2) = tgtIs t := by simp [ownOf, Function.comp_def]
theorem blk_ok {c : Ct} {T : Tb} {L : Py.Lk} {S : Sc} (F : Fine c T L S) {scope : Scope} {t : Py.Tgt} (h : blkB T S scope t = true) : BlkOk c.X.N c.X.env.scope scope (ownOf T t) := by
  obtain ⟨h1, h⟩ := ba h
  obtain ⟨h2, h⟩ := ba h
  obtain ⟨h3, h⟩ := ba h
  obtain ⟨h4, h5⟩ := ba h
  rw [List.all_eq_true] at h2 h3 h4 h5
  rw [F.N, F.sc]
  refine ⟨of_decide_eq_true h1, fun y hy => of_decide_eq_true (h2 y hy), fun p hp => of_decide_eq_true (h3 p hp), fun y hy e => ?_, fun y hy e => ?_⟩
  · have := h4 y hy
    simp only [e, decide_true, Bool.not_true, Bool.false_or, Bool.or_eq_true, decide_eq_true_eq] at this
    exact this
  · have := h5 y hy
    simp only [Bool.or_eq_true, Bool.not_eq_true', Bool.or_eq_false_iff, decide_eq_false_iff_not, List.contains_iff_mem] at this
    rcases this with h | h | h
    · rcases e with e | e
      · exact absurd e h.1
      · exact absurd e h.2
    · exact .inl h
    · right
      intro hm
      have h2 : T.N.contains y.1 = true := List.contains_iff_mem.mpr hm
      rw [h] at h2
      cases h2
def Sc.blk (S : Sc) (scope : Scope) : Sc := ⟨relS scope S.sc, fun x => scope.names.lookup x == some .cell, true, false, none⟩
theorem Fine.blk {c : Ct} {T : Tb} {L : Py.Lk} {S : Sc} (F : Fine c T L S) (hS : S.calm = true) {scope : Scope} (hk : scope.kind = .function) (s : Shared) (H : Hp) (C : Addr) (cl : List (Str × Addr)) (fp : List Addr) :
    Fine { c.still with X := c.X.blk s H scope (compEnvC scope cl C c.X.env) fp } T L (S.blk scope) where
  sc := by show relabel scope c.X.env = _; rw [relS_eq, F.sc]; rfl
  N := F.N
  nd := F.nd
  fn := rfl
  un := F.un
  po := PassesOwn.never
  tk := takes0
  calm := fun _ => F.calm hS
  bl := F.bl
  df := fun i x n h => let ⟨a, h1, h2, h3⟩ := F.df i x n h; ⟨a, h1, h2, fun _ => ⟨(h3 hS).ok, (h3 hS).kp⟩⟩
  fa := F.fa
  ln := F.ln
  gl := F.gl
  cl := F.cl
  sub := F.sub
  ec := F.ec
  eb := F.eb
  top := fun h => by cases h
  hot := fun i h => by cases h
  kind := hk
  sb := F.sb
  th := fun h => by cases h
end PyS

end
section
namespace PyS
open PySem PySem.Spec PyProof.Rows L2
def bltNm : Py.Blt → Option String
  | .len => some "len" | .abs => some "abs" | .max2 => some "max" | .min2 => some "min" | .sum => some "sum" | .any => some "any" | .all => some "all"
  | .sortedI => some "sorted" | .max1I => some "max" | .min1I => some "min" | .tuple => some "tuple" | .list => some "list"
  | _ => none
theorem blt_ok {c : Ct} {b : Py.Blt} {nm : String} (hb : bltNm b = some nm) (hc : c.X.calm = true) :
    (∃ id, CallS c (.builtin id) (Py.bltD b) ∧ bootBuiltins (Str.ofString nm) = some (.builtin id)) ∨ (∃ id, CallS c (.type id) (Py.bltD b) ∧ bootBuiltins (Str.ofString nm) = some (.type id)) := by
  cases b <;> cases hb
  case len => exact .inl ⟨_, cs_len, rfl⟩
  case abs => exact .inl ⟨_, cs_abs, rfl⟩
  case max2 => exact .inl ⟨_, cs_max2 hc, rfl⟩
  case min2 => exact .inl ⟨_, cs_min2 hc, rfl⟩
  case sum => exact .inl ⟨_, cs_sum hc, rfl⟩
  case any => exact .inl ⟨_, cs_any hc, rfl⟩
  case all => exact .inl ⟨_, cs_all hc, rfl⟩
  case sortedI => exact .inl ⟨_, cs_sortedI, rfl⟩
  case max1I => exact .inl ⟨_, cs_max1I hc, rfl⟩
  case min1I => exact .inl ⟨_, cs_min1I hc, rfl⟩
  case tuple => exact .inr ⟨_, cs_tuple, rfl⟩
  case list => exact .inr ⟨_, cs_list, rfl⟩
/-- how the value of an expression stands -/
def kd : Py.E → Kd
  | .peek i => .pk i
  | .bin .. => .frs
  | .slL .. => .frs
  | .slH .. => .frs
  | .slB .. => .frs
  | .lst .. => .frs
  | .cmp0 .. => .frs
  | .cmpi .. => .frs
  | .blt .. => .frs
  | .ite _ a b => (match kd a, kd b with
    | .frs, .frs => .frs
    | _, _ => .val)
  | _ => .val
def isPk : Kd → Bool
  | .pk _ => true
  | _ => false
def noPk (e : Py.E) : Bool := !isPk (kd e)
def Es.all : Py.Es → Bool
  | .nil => true
  | .cons e r => noPk e && Es.all r
def kds : Py.Es → List Kd
  | .nil => []
  | .cons e r => kd e :: kds r
def Es.len : Py.Es → Nat
  | .nil => 0
  | .cons _ r => Es.len r + 1
def mC : Py.D → Expr → Bool
  | .int i, .Constant (.int j) _ _ => decide (i = j)
  | .bl b, .Constant (.bool k) _ _ => decide (b = k)
  | .non, .Constant .none _ _ => true
  | .str cs, .Constant (.str x) _ _ => decide (x.cps.toList = cs) && cs.all fun c => decide (c < 1114112)
  | _, _ => false
def isCst : Py.D → Expr → Bool
  | .non, .Constant .none _ _ => true
  | .bl b, .Constant (.bool k) _ _ => decide (b = k)
  | _, _ => false
def mTgs (T : Tb) (S : Sc) : List Nat → List Expr → Bool
  | [], [] => true
  | i :: is, .Name x _ :: es => tgB T S i x && mTgs T S is es
  | _, _ => false
def mTgt (T : Tb) (S : Sc) : Py.Tgt → Expr → Bool
  | .nm i, .Name x _ => tgB T S i x
  | .tp is, .Tuple es _ _ => S.calm && mTgs T S is es
  | _, _ => false
/-- a call of a name: the arguments -/
def mNm (S : Sc) (x : Str) (f : Str) : Bool := decide (x = f) && glB S x
mutual
def mE (T : Tb) : Py.E → Sc → Expr → Bool
  | .cst d, S, x => mC d x
  | .var i, S, x => (match x with
    | .Name n _ => nmB T S i n
    | _ => false)
  | .peek i, S, x => (match x with
    | .Name n _ => nmB T S i n
    | _ => false)
  | .glb i, S, x => (match x with
    | .Name n _ => decide (T.gs[i]? = some n) && glB S n
    | _ => false)
  | .fnv i, S, x => (match x with
    | .Name n _ => decide (T.fs[i]?.map (·.1) = some n) && glB S n
    | _ => false)
  | .bin o a b, S, x => (match x with
    | .BinOp l op r _ => decide (op = opOf o) && (mE T a S l && mE T b S r)
    | _ => false)
  | .neg a, S, x => (match x with
    | .UnaryOp .USub e _ => mE T a S e
    | _ => false)
  | .not a, S, x => (match x with
    | .UnaryOp .Not e _ => noPk a && mE T a S e
    | _ => false)
  | .and a b, S, x => (match x with
    | .BoolOp .And [e, f] _ => noPk a && (noPk b && (mE T a S e && mE T b S f))
    | .BoolOp .And (e :: f :: g :: r) p => noPk a && (mE T a S e && mE T b S (.BoolOp .And (f :: g :: r) p))
    | _ => false)
  | .or a b, S, x => (match x with
    | .BoolOp .Or [e, f] _ => noPk a && (noPk b && (mE T a S e && mE T b S f))
    | .BoolOp .Or (e :: f :: g :: r) p => noPk a && (mE T a S e && mE T b S (.BoolOp .Or (f :: g :: r) p))
    | _ => false)
  | .cmp o a b, S, x => (match x with
    | .Compare l [op] [r] _ => decide (op = copOf o) && (notSet r && (mE T a S l && mE T b S r))
    | _ => false)
  | .cmp2 o o' a b d, S, x => (match x with
    | .Compare l [op, op'] [r, q] _ => decide (op = copOf o) && (decide (op' = copOf o') && (notSet q && (mE T a S l && (mE T b S r && mE T d S q))))
    | _ => false)
  | .cmp3 o o' o'' a b d f, S, x => (match x with
    | .Compare l [op, op', op''] [r, q, u] _ => decide (op = copOf o) && (decide (op' = copOf o') && (decide (op'' = copOf o'') && (notSet u && (mE T a S l && (mE T b S r && (mE T d S q && mE T f S u))))))
    | _ => false)
  | .isC n a d, S, x => (match x with
    | .Compare l [op] [r] _ => decide (op = if n = true then .IsNot else .Is) && (isCst d r && mE T a S l)
    | _ => false)
  | .ite q a b, S, x => (match x with
    | .IfExp t l r _ => noPk q && (noPk a && (noPk b && (mE T q S t && (mE T a S l && mE T b S r))))
    | _ => false)
  | .call f es, S, x => (match x with
    | .Call (.Name n _) args [] _ => S.calm && (decide (T.fs[f]? = some (n, args.length)) && (glB S n && (args.all notStar && (Es.all es && mEs T es S args))))
    | _ => false)
  | .calv f es, S, x => (match x with
    | .Call (.Subscript u v p) (e :: r) [] _ => S.calm && (noPk f && (mE T f S (.Subscript u v p) && (notStar e && (r.all notStar && (Es.all es && mEs T es S (e :: r))))))
    | _ => false)
  | .blt b es, S, x => (match x with
    | .Call (.Name n _) (e :: r) [] _ => (match bltNm b with
      | some nm => S.calm && (mNm S n (Str.ofString nm) && (decide (n ≠ "__name__") && (T.bl.contains n && (notStar e && (r.all notStar && mEs T es S (e :: r))))))
      | none => false)
    | _ => false)
  | .idx a b, S, x => (match x with
    | .Call (.Attribute o n apos) [e] [] cpos => decide (n = "index") && (decide (apos.endLine = cpos.line) && (notCall o && (notStar e && (mE T a S o && mE T b S e))))
    | _ => false)
  | .cnt a b, S, x => false
  | .isi a t, S, x => (match x with
    | .Call (.Name n _) [e, .Name m _] [] _ => mNm S n "isinstance" && (mNm S m (Str.ofString (tyName t)) && (T.bl.contains n && (T.bl.contains m && (notStar e && mE T a S e))))
    | _ => false)
  | .ise i k, S, x => (match x with
    | .Call (.Name n _) [.Name y _, .Name m _] [] _ => mNm S n "isinstance" && (T.bl.contains n && (decide (S.hot = some i) && (nmB T S i y && (glB S m && decide (T.cs[k]? = some m)))))
    | _ => false)
  | .sub a b, S, x => (match x with
    | .Subscript u v _ => notSlice v && (mE T a S u && mE T b S v)
    | _ => false)
  | .slL a b, S, x => (match x with
    | .Subscript u (.Slice (some lo) none none _) _ => mE T a S u && mE T b S lo
    | _ => false)
  | .slH a b, S, x => (match x with
    | .Subscript u (.Slice none (some hi) none _) _ => mE T a S u && mE T b S hi
    | _ => false)
  | .slB a b d, S, x => (match x with
    | .Subscript u (.Slice (some lo) (some hi) none _) _ => mE T a S u && (mE T b S lo && mE T d S hi)
    | _ => false)
  | .rev a, S, x => false
  | .tup es, S, x => (match x with
    | .Tuple xs _ _ => decide (xs.length ≤ 1000) && (Es.all es && mEs T es S xs)
    | _ => false)
  | .lst es, S, x => (match x with
    | .List xs _ => decide (xs.length ≤ 1000) && (Es.all es && mEs T es S xs)
    | _ => false)
  | .cmp0 t it e, S, x => (match x with
    | .ListComp elt [⟨tg, iter, [], 0⟩] scope _ => S.calm && (blkB T S scope t && (mTgt T (S.blk scope) t tg && (notSet iter && (mI T it S tg iter && (noPk e && mE T e (S.blk scope) elt)))))
    | _ => false)
  | .cmpi t it k e, S, x => (match x with
    | .ListComp elt [⟨tg, iter, [cd], 0⟩] scope _ => S.calm && (blkB T S scope t && (mTgt T (S.blk scope) t tg && (notSet iter && (mI T it S tg iter && (noPk e && (mE T e (S.blk scope) elt && (noPk k && mE T k (S.blk scope) cd)))))))
    | _ => false)
def mEs (T : Tb) : Py.Es → Sc → List Expr → Bool
  | .nil, S, xs => (match xs with
    | [] => true
    | _ => false)
  | .cons e r, S, xs => (match xs with
    | x :: xs => notStar x && (mE T e S x && mEs T r S xs)
    | [] => false)
def mI (T : Tb) : Py.It → Sc → Expr → Expr → Bool
  | .seq a, S, tg, x => mE T a S x
  | .rng1 a, S, tg, x => (match x with
    | .Call (.Name n _) [e] [] _ => mNm S n "range" && (T.bl.contains n && (notStar e && mE T a S e))
    | _ => false)
  | .rng2 a b, S, tg, x => (match x with
    | .Call (.Name n _) [e, f] [] _ => mNm S n "range" && (T.bl.contains n && (notStar e && (notStar f && (mE T a S e && mE T b S f))))
    | _ => false)
  | .zip a b, S, tg, x => (match tg, x with
    | .Tuple _ _ _, .Call (.Name n _) [e, f] [] _ => mNm S n "zip" && (T.bl.contains n && (notStar e && (notStar f && (mE T a S e && mE T b S f))))
    | _, _ => false)
  | .enum a, S, tg, x => (match tg, x with
    | .Tuple _ _ _, .Call (.Name n _) [e] [] _ => mNm S n "enumerate" && (T.bl.contains n && (notStar e && mE T a S e))
    | _, _ => false)
end
/-- what is walked by a for: nothing that the suite's owner may write -/
def fzI : Py.It → Bool
  | .seq a => noPk a
  | .zip a b => noPk a && noPk b
  | .enum a => noPk a
  | _ => true
end PyS

end
section
namespace PyS
open PySem PySem.Spec PyProof.Rows L2
structure G (c : Ct) (k : Kd) (x : Expr) (m : Py.Env → Py.M Py.D) : Prop where
  je : JE c k x m
  jb : isPk k = false → JB c k x m
  jw : ∀ op es pos, x = .BoolOp op es pos → JW c op es m
def notBool : Expr → Bool
  | .BoolOp .. => false
  | _ => true
section
variable {c : Ct} {T : Tb} {L : Py.Lk} {S : Sc} {x : Expr} {m : Py.Env → Py.M Py.D} {k k' : Kd}
theorem G.of (h : JB c k x m) (hn : notBool x = true) : G c k x m := ⟨h.je, fun _ => h, fun op es pos e => by subst e; cases hn⟩
theorem G.val (h : G c k x m) (hk : isPk k = false) : JB c .val x m := by
  cases k with
  | val => exact h.jb hk
  | frs => exact (h.jb hk).weaken
  | pk i => cases hk
def Fits (k k' : Kd) : Prop := k' = k ∨ (k = .frs ∧ k' = .val)
theorem G.at (h : G c k x m) (hk : Fits k k') : JE c k' x m := by
  rcases hk with rfl | ⟨rfl, rfl⟩
  · exact h.je
  · exact h.je.weaken
def fits : Py.Es → List Kd → Prop
  | .nil, [] => True
  | .cons e r, k :: ks => Fits (kd e) k ∧ fits r ks
  | _, _ => False
theorem fits_kds : ∀ es, fits es (kds es)
  | .nil => trivial
  | .cons e r => ⟨.inl rfl, fits_kds r⟩
theorem fits_vals : ∀ {es}, Es.all es = true → fits es (vals (Es.len es))
  | .nil, _ => trivial
  | .cons e r, h => by
    obtain ⟨h1, h2⟩ := ba h
    refine ⟨?_, fits_vals h2⟩
    unfold noPk at h1
    cases hk : kd e with
    | val => exact .inl rfl
    | frs => exact .inr ⟨rfl, rfl⟩
    | pk i => rw [hk] at h1; cases h1
theorem opk_of {fz : Bool} {e : Py.E} (h : fz = true → noPk e = true) : ∃ k, Fits (kd e) k ∧ OpK fz k := by
  cases hk : kd e with
  | val => exact ⟨.val, .inl rfl, .inl rfl⟩
  | frs => exact ⟨.val, .inr ⟨rfl, rfl⟩, .inl rfl⟩
  | pk i =>
    refine ⟨.pk i, .inl rfl, .inr ⟨?_, i, rfl⟩⟩
    cases fz with
    | false => rfl
    | true =>
      have := h rfl
      unfold noPk at this
      rw [hk] at this
      cases this
theorem mEs_len : ∀ {es : Py.Es} {xs : List Expr}, mEs T es S xs = true → Es.len es = xs.length
  | .nil, [], _ => rfl
  | .nil, _ :: _, h => by simp [mEs] at h
  | .cons e r, [], h => by simp [mEs] at h
  | .cons e r, x :: xs, h => by
    simp only [mEs] at h
    obtain ⟨_, h⟩ := ba h
    obtain ⟨_, h⟩ := ba h
    simp only [Es.len, List.length_cons, mEs_len h]
theorem sTgs : ∀ {is : List Nat} {es : List Expr}, Fine c T L S → mTgs T S is es = true → PGs c.X es (gNs is) ∧ (assignEach es c.X.env).length = is.length ∧ (assignEach es c.X.env).findIdx? (·.1) = none
  | [], [], F, _ => ⟨pgs_nil, rfl, rfl⟩
  | [], _ :: _, F, h => by cases h
  | i :: is, es, F, h => by
    cases es with
    | nil => cases h
    | cons e es =>
      cases e <;> first | (cases h; done) | skip
      rename_i x p
      obtain ⟨h1, h2⟩ := ba h
      obtain ⟨k1, k2, k3⟩ := sTgs F h2
      obtain ⟨g1, g2, g3⟩ := F.tgB h1
      refine ⟨pgs_cons (pg_name F.ndX g1 g2 g3) k1 rfl, ?_, ?_⟩
      · show (assignEach es c.X.env).length + 1 = _
        rw [k2]; rfl
      · rw [assign_each rfl, List.findIdx?_cons]
        simp [k3]
theorem sTgt {t : Py.Tgt} {x : Expr} (F : Fine c T L S) (h : mTgt T S t x = true) : PG c.X x (gOf c.X.K t) := by
  cases t with
  | nm i =>
    cases x <;> first | (cases h; done) | skip
    obtain ⟨g1, g2, g3⟩ := F.tgB h
    exact pg_name F.ndX g1 g2 g3
  | tp is =>
    cases x <;> first | (cases h; done) | skip
    obtain ⟨h0, h⟩ := ba h
    obtain ⟨k1, k2, k3⟩ := sTgs F h
    exact pg_tup (F.calm h0).1 k1 k2 k3
theorem Fine.nm {x f : Str} (F : Fine c T L S) (h : mNm S x f = true) : x = f ∧ Gl c.X x ∧ (x == ("__debug__" : Str)) = false := by
  obtain ⟨h1, h2⟩ := ba h
  obtain ⟨h3, h4⟩ := F.glB h2
  exact ⟨of_decide_eq_true h1, h3, h4⟩
theorem Fine.free {x : Str} (F : Fine c T L S) (h : T.bl.contains x = true) : c.X.mg x = none := F.bl x (List.contains_iff_mem.mp h)
theorem sC {d : Py.D} {x : Expr} (h : mC d x = true) : JB c .val x (fun _ => Py.ret d) ∧ notBool x = true := by
  unfold mC at h
  split at h
  · obtain rfl := of_decide_eq_true h; exact ⟨jb_int, rfl⟩
  · obtain rfl := of_decide_eq_true h; exact ⟨jb_bl, rfl⟩
  · exact ⟨jb_non, rfl⟩
  · obtain ⟨h1, h2⟩ := ba h; exact ⟨jb_str (of_decide_eq_true h1) h2, rfl⟩
  · cases h
theorem ite_kd {q a b : Py.E} (ha : noPk a = true) (hb : noPk b = true) : (kd (.ite q a b) = .frs ∧ kd a = .frs ∧ kd b = .frs) ∨ kd (.ite q a b) = .val := by
  unfold noPk at ha hb
  cases h1 : kd a <;> cases h2 : kd b <;> simp [kd, h1, h2]
end
abbrev blkC (c : Ct) (s : Shared) (H : Hp) (scope : Scope) (C : Addr) (cl : List (Str × Addr)) (fp : List Addr) : Ct := { c.still with X := c.X.blk s H scope (compEnvC scope cl C c.X.env) fp }
theorem tE_blk {c : Ct} {s : Shared} {H : Hp} {scope : Scope} {C : Addr} {cl : List (Str × Addr)} {fp : List Addr} {e : Expr} {m : Py.Env → Py.M Py.D} (h : JE (blkC c s H scope C cl fp) .val e m) : PE (c.X.blk s H scope (compEnvC scope cl C c.X.env) fp) e (tE c.still .val m) := PE.imp h fun σ H Q ⟨Z, η, ω, r, en, q⟩ => ⟨Z, η, ω, r, en, by
  unfold post at q ⊢
  revert q
  cases m r ω with
  | stuck => exact fun q => q
  | exc x w => exact fun q H' Z' η' a n ha => q H' Z' η' a ⟨n.s, n.w⟩ ha
  | ok d w => exact fun q v H' Z' η' n rr => q v H' Z' η' ⟨n.s, n.w⟩ rr⟩
theorem tT_blk {c : Ct} {s : Shared} {H : Hp} {scope : Scope} {C : Addr} {cl : List (Str × Addr)} {fp : List Addr} {e : Expr} {m : Py.Env → Py.M Bool} (h : JT (blkC c s H scope C cl fp) e m) : PT (c.X.blk s H scope (compEnvC scope cl C c.X.env) fp) e (tT c.still m) := PT.imp h fun σ H Q ⟨Z, η, ω, r, en, q⟩ => ⟨Z, η, ω, r, en, by
  unfold postB at q ⊢
  revert q
  cases m r ω with
  | stuck => exact fun q => q
  | exc x w => exact fun q H' Z' η' a n ha => q H' Z' η' a ⟨n.s, n.w⟩ ha
  | ok d w => exact fun q H' Z' η' n => q H' Z' η' ⟨n.s, n.w⟩⟩
set_option maxHeartbeats 1000000
mutual
theorem sE {T : Tb} {L : Py.Lk} : ∀ (e : Py.E) {c : Ct} {S : Sc} {x : Expr}, Fine c T L S → mE T e S x = true → G c (kd e) x (Py.ev L e)
  | .cst d, c, S, x, F, h => by
    obtain ⟨h1, h2⟩ := sC (c := c) (show mC d x = true by simpa only [mE] using h)
    exact .of h1 h2
  | .var i, c, S, x, F, h => by
    simp only [mE] at h
    split at h
    · obtain ⟨h1, h2, h3, h4⟩ := F.nmB h
      exact .of (jb_var h1 h2 h3 h4) rfl
    · cases h
  | .peek i, c, S, x, F, h => by
    simp only [mE] at h
    split at h
    · obtain ⟨h1, h2, h3, h4⟩ := F.nmB h
      exact ⟨je_peek h1 h2 h3 h4, fun z => (by cases z), fun _ _ _ z => (by cases z)⟩
    · cases h
  | .glb i, c, S, x, F, h => by
    simp only [mE] at h
    split at h
    · obtain ⟨h1, h2⟩ := ba h
      obtain ⟨v, u, g1, g2, g3⟩ := F.gl i _ (of_decide_eq_true h1)
      obtain ⟨g4, g5⟩ := F.glB h2
      exact .of (jb_glob g4 g1 g2 g5 g3) rfl
    · cases h
  | .fnv i, c, S, x, F, h => by
    simp only [mE] at h
    split at h
    · obtain ⟨h1, h2⟩ := ba h
      obtain ⟨⟨n, np⟩, k1, k2⟩ := Option.map_eq_some_iff.mp (of_decide_eq_true h1)
      obtain ⟨a, g1, g2, _⟩ := F.df i n np k1
      obtain ⟨g4, g5⟩ := F.glB h2
      subst k2
      exact .of (jb_glob g4 g2 (v := .ref a) rfl g5 (fun H Z η => .fn g1)) rfl
    · cases h
  | .bin o a b, c, S, x, F, h => by
    simp only [mE] at h
    split at h
    · obtain ⟨h1, h⟩ := ba h
      obtain ⟨h2, h3⟩ := ba h
      obtain rfl := of_decide_eq_true h1
      exact .of (.plain (.inr rfl) (je_op (opS_bin o) (sE a F h2).je (sE b F h3).je) (fun _ => rfl)) rfl
    · cases h
  | .neg a, c, S, x, F, h => by
    simp only [mE] at h
    split at h
    · exact .of (jb_neg (sE a F h).je) rfl
    · cases h
  | .not a, c, S, x, F, h => by
    simp only [mE] at h
    split at h
    · obtain ⟨h1, h2⟩ := ba h
      exact .of (jb_not ((sE a F h2).val (nb h1))) rfl
    · cases h
  | .and a b, c, S, x, F, h => by
    simp only [mE] at h
    split at h
    · obtain ⟨h1, h⟩ := ba h
      obtain ⟨h2, h⟩ := ba h
      obtain ⟨h3, h4⟩ := ba h
      have w := JW.and ((sE a F h3).val (nb h1)) (JW.one ((sE b F h4).val (nb h2)))
      exact ⟨(w.jb _).je, fun _ => w.jb _, fun op es pos e => by cases e; exact w⟩
    · obtain ⟨h1, h⟩ := ba h
      obtain ⟨h3, h4⟩ := ba h
      have w := JW.and ((sE a F h3).val (nb h1)) ((sE b F h4).jw _ _ _ rfl)
      exact ⟨(w.jb _).je, fun _ => w.jb _, fun op es pos e => by cases e; exact w⟩
    · cases h
  | .or a b, c, S, x, F, h => by
    simp only [mE] at h
    split at h
    · obtain ⟨h1, h⟩ := ba h
      obtain ⟨h2, h⟩ := ba h
      obtain ⟨h3, h4⟩ := ba h
      have w := JW.or ((sE a F h3).val (nb h1)) (JW.one ((sE b F h4).val (nb h2)))
      exact ⟨(w.jb _).je, fun _ => w.jb _, fun op es pos e => by cases e; exact w⟩
    · obtain ⟨h1, h⟩ := ba h
      obtain ⟨h3, h4⟩ := ba h
      have w := JW.or ((sE a F h3).val (nb h1)) ((sE b F h4).jw _ _ _ rfl)
      exact ⟨(w.jb _).je, fun _ => w.jb _, fun op es pos e => by cases e; exact w⟩
    · cases h
  | .cmp o a b, c, S, x, F, h => by
    simp only [mE] at h
    split at h
    · obtain ⟨h1, h⟩ := ba h
      obtain ⟨h2, h⟩ := ba h
      obtain ⟨h3, h4⟩ := ba h
      obtain rfl := of_decide_eq_true h1
      exact .of (jb_cmp (opB_cmp F.un o) (sE a F h3).je (sE b F h4).je (set_marks h2)) rfl
    · cases h
  | .cmp2 o o' a b d, c, S, x, F, h => by
    simp only [mE] at h
    split at h
    · obtain ⟨h1, h⟩ := ba h
      obtain ⟨h1', h⟩ := ba h
      obtain ⟨h2, h⟩ := ba h
      obtain ⟨h3, h⟩ := ba h
      obtain ⟨h4, h5⟩ := ba h
      obtain rfl := of_decide_eq_true h1
      obtain rfl := of_decide_eq_true h1'
      exact .of (jb_cmp2 (opB_cmp F.un o) (opB_cmp F.un o') (sE a F h3).je (sE b F h4).je (sE d F h5).je (set_marks h2)) rfl
    · cases h
  | .cmp3 o o' o'' a b d f, c, S, x, F, h => by
    simp only [mE] at h
    split at h
    · obtain ⟨h1, h⟩ := ba h
      obtain ⟨h1', h⟩ := ba h
      obtain ⟨h1'', h⟩ := ba h
      obtain ⟨h2, h⟩ := ba h
      obtain ⟨h3, h⟩ := ba h
      obtain ⟨h4, h⟩ := ba h
      obtain ⟨h5, h6⟩ := ba h
      obtain rfl := of_decide_eq_true h1
      obtain rfl := of_decide_eq_true h1'
      obtain rfl := of_decide_eq_true h1''
      exact .of (jb_cmp3 (opB_cmp F.un o) (opB_cmp F.un o') (opB_cmp F.un o'') (sE a F h3).je (sE b F h4).je (sE d F h5).je (sE f F h6).je (set_marks h2)) rfl
    · cases h
  | .isC n a d, c, S, x, F, h => by
    simp only [mE] at h
    split at h
    · obtain ⟨h1, h⟩ := ba h
      obtain ⟨h2, h3⟩ := ba h
      obtain rfl := of_decide_eq_true h1
      refine .of (jb_isC (sE a F h3).je ?_) rfl
      unfold isCst at h2
      split at h2
      · exact .inl ⟨rfl, _, _, rfl⟩
      · obtain rfl := of_decide_eq_true h2; exact .inr ⟨_, _, _, rfl, rfl⟩
      · cases h2
    · cases h
  | .ite q a b, c, S, x, F, h => by
    simp only [mE] at h
    split at h
    · obtain ⟨h1, h⟩ := ba h
      obtain ⟨h2, h⟩ := ba h
      obtain ⟨h3, h⟩ := ba h
      obtain ⟨h4, h⟩ := ba h
      obtain ⟨h5, h6⟩ := ba h
      rcases ite_kd (q := q) h2 h3 with ⟨k1, k2, k3⟩ | k1
      · have ga := (sE a F h5).jb (nb h2)
        have gb := (sE b F h6).jb (nb h3)
        rw [k2] at ga
        rw [k3] at gb
        rw [k1]
        exact .of (jb_ite ((sE q F h4).val (nb h1)) ga gb) rfl
      · rw [k1]
        exact .of (jb_ite ((sE q F h4).val (nb h1)) ((sE a F h5).val (nb h2)) ((sE b F h6).val (nb h3))) rfl
    · cases h
  | .call f es, c, S, x, F, h => by
    simp only [mE] at h
    split at h
    · rename_i n _ args _
      obtain ⟨h0, h⟩ := ba h
      obtain ⟨h1, h⟩ := ba h
      obtain ⟨h2, h⟩ := ba h
      obtain ⟨h3, h⟩ := ba h
      obtain ⟨h4, h5⟩ := ba h
      obtain ⟨a, g1, g2, g3⟩ := F.df f _ _ (of_decide_eq_true h1)
      obtain ⟨⟨j, fd, ps, ok, hr, hb⟩, kp⟩ := g3 h0
      obtain ⟨g4, g5⟩ := F.glB h2
      have hl := mEs_len h5
      have ja := sEs es F h5 _ (fits_vals h4)
      rw [hl] at ja
      cases args with
      | nil =>
        cases es with
        | nil => exact .of (jb_call0 (m := L.φ f) ok hr g4 g2 kp hb F.tk g5) rfl
        | cons _ _ => simp [mEs] at h5
      | cons e r =>
        obtain ⟨h6, h7⟩ := ba (show (notStar e && r.all notStar) = true from h3)
        exact .of (jb_call ok hr g4 g2 kp hb F.tk ja g5 (star_cons h6) (star_any h7)) rfl
    · cases h
  | .calv f es, c, S, x, F, h => by
    simp only [mE] at h
    split at h
    · obtain ⟨h0, h⟩ := ba h
      obtain ⟨h1, h⟩ := ba h
      obtain ⟨h2, h⟩ := ba h
      obtain ⟨h3, h⟩ := ba h
      obtain ⟨h4, h⟩ := ba h
      obtain ⟨h5, h6⟩ := ba h
      have ja := sEs es F h6 _ (fits_vals h5)
      refine .of (jb_calv (sE f F h2).je (fun i a hi => ?_) F.tk ja rfl (star_cons h3) (star_any h4)) rfl
      obtain ⟨x, n, k1, k2⟩ := F.fa i a hi
      obtain ⟨a', g1, g2, g3⟩ := F.df i x n k1
      rw [hi] at g1
      cases g1
      exact ⟨n, g3 h0, fun ds ω hne => F.ln i x n ds ω k1 hne⟩
    · cases h
  | .blt b es, c, S, x, F, h => by
    simp only [mE] at h
    split at h
    · split at h
      · rename_i nm hb
        obtain ⟨h0, h⟩ := ba h
        obtain ⟨h1, h⟩ := ba h
        obtain ⟨h2, h⟩ := ba h
        obtain ⟨h3, h⟩ := ba h
        obtain ⟨h4, h⟩ := ba h
        obtain ⟨h5, h6⟩ := ba h
        obtain ⟨e1, g1, g2⟩ := F.nm h1
        have g3 := F.free h3
        have ja := sEs es F h6 _ (fits_kds es)
        subst e1
        rcases blt_ok (c := c) hb (F.calm h0).1 with ⟨id, k1, k2⟩ | ⟨id, k1, k2⟩
        · exact .of (jb_callB k1 g1 g3 k2 ja (of_decide_eq_true h2) g2 (star_cons h4) (star_any h5)) rfl
        · exact .of (jb_callTy k1 g1 g3 k2 ja (of_decide_eq_true h2) g2 (star_cons h4) (star_any h5)) rfl
      · cases h
    · cases h
  | .idx a b, c, S, x, F, h => by
    simp only [mE] at h
    split at h
    · obtain ⟨h1, h⟩ := ba h
      obtain ⟨h2, h⟩ := ba h
      obtain ⟨h3, h⟩ := ba h
      obtain ⟨h4, h⟩ := ba h
      obtain ⟨h5, h6⟩ := ba h
      obtain rfl := of_decide_eq_true h1
      exact .of (jb_idx F.un (sE a F h5).je (sE b F h6).je (call_base h3) (star_one h4) (by rw [of_decide_eq_true h2]; exact beq_self_eq_true _)) rfl
    · cases h
  | .cnt a b, c, S, x, F, h => by simp only [mE] at h; cases h
  | .isi a t, c, S, x, F, h => by
    simp only [mE] at h
    split at h
    · obtain ⟨h1, h⟩ := ba h
      obtain ⟨h2, h⟩ := ba h
      obtain ⟨h3, h⟩ := ba h
      obtain ⟨h4, h⟩ := ba h
      obtain ⟨h5, h6⟩ := ba h
      obtain ⟨e1, g1, _⟩ := F.nm h1
      obtain ⟨e2, g2, _⟩ := F.nm h2
      have g3 := F.free h3
      have g4 := F.free h4
      subst e1
      exact .of (jb_isi (sE a F h6).je g1 g3 e2 g2 g4 (star_cons h5)) rfl
    · cases h
  | .ise i k, c, S, x, F, h => by
    simp only [mE] at h
    split at h
    · obtain ⟨h1, h⟩ := ba h
      obtain ⟨h2, h⟩ := ba h
      obtain ⟨h3, h⟩ := ba h
      obtain ⟨h4, h⟩ := ba h
      obtain ⟨h5, h6⟩ := ba h
      obtain ⟨e1, g1, _⟩ := F.nm h1
      have g3 := F.free h2
      obtain ⟨a, n, D0, k1, k2, k3⟩ := F.hot i (of_decide_eq_true h3)
      obtain ⟨n1, n2, n3, n4⟩ := F.nmB h4
      obtain ⟨g5, g6⟩ := F.glB h5
      obtain ⟨E, k4, k5, _⟩ := F.cl k _ (of_decide_eq_true h6)
      subst e1
      exact .of (jb_ise (sub := fun n => L.sub n k) k1 k3 n1 n2 n3 n4 g5 k5 g6 (F.sub n k D0 E k2 k4).1 g1 g3) rfl
    · cases h
  | .sub a b, c, S, x, F, h => by
    simp only [mE] at h
    split at h
    · obtain ⟨h1, h⟩ := ba h
      obtain ⟨h2, h3⟩ := ba h
      exact .of (jb_sub (sE a F h2).je (sE b F h3).je (slice_plain h1)) rfl
    · cases h
  | .slL a b, c, S, x, F, h => by
    simp only [mE] at h
    split at h
    · obtain ⟨h2, h3⟩ := ba h
      exact .of (jb_slL (sE a F h2).je (sE b F h3).je) rfl
    · cases h
  | .slH a b, c, S, x, F, h => by
    simp only [mE] at h
    split at h
    · obtain ⟨h2, h3⟩ := ba h
      exact .of (jb_slH (sE a F h2).je (sE b F h3).je) rfl
    · cases h
  | .slB a b d, c, S, x, F, h => by
    simp only [mE] at h
    split at h
    · obtain ⟨h2, h⟩ := ba h
      obtain ⟨h3, h4⟩ := ba h
      exact .of (jb_slB (sE a F h2).je (sE b F h3).je (sE d F h4).je) rfl
    · cases h
  | .rev a, c, S, x, F, h => by simp only [mE] at h; cases h
  | .tup es, c, S, x, F, h => by
    simp only [mE] at h
    split at h
    · obtain ⟨h1, h⟩ := ba h
      obtain ⟨h2, h3⟩ := ba h
      have ja := sEs es F h3 _ (fits_vals h2)
      exact .of (je_tup ja (by rw [mEs_len h3]; exact of_decide_eq_true h1)) rfl
    · cases h
  | .lst es, c, S, x, F, h => by
    simp only [mE] at h
    split at h
    · obtain ⟨h1, h⟩ := ba h
      obtain ⟨h2, h3⟩ := ba h
      have ja := sEs es F h3 _ (fits_vals h2)
      exact .of (je_lst ja (by rw [mEs_len h3]; exact of_decide_eq_true h1)) rfl
    · cases h
  | .cmp0 t it e, c, S, x, F, h => by
    simp only [mE] at h
    split at h
    · rename_i elt tg iter scope pos
      obtain ⟨h0, h⟩ := ba h
      obtain ⟨h1, h⟩ := ba h
      obtain ⟨h2, h⟩ := ba h
      obtain ⟨h3, h⟩ := ba h
      obtain ⟨h4, h⟩ := ba h
      obtain ⟨h5, h6⟩ := ba h
      have bk := blk_ok F h1
      refine .of (jb_comp (F.calm h0).1 F.ndX (sI it (fz := false) F (fun z => by cases z) h4) bk (own_is T t) (fun s H C cl fp => sTgt (F.blk h0 bk.kind s H C cl fp) h2)
        (mt := fun _ => Py.ret true) (fun s H C cl fp => ⟨fun pins s σ H Q I q => pts_nil.run pins s σ H Q I (tT.ret q)⟩) (fun s H C cl fp => tE_blk ((sE e (F.blk h0 bk.kind s H C cl fp) h6).val (nb h5)).je) (set_fold h3) ?_) rfl
      rfl
    · cases h
  | .cmpi t it q e, c, S, x, F, h => by
    simp only [mE] at h
    split at h
    · rename_i elt tg iter cd scope pos
      obtain ⟨h0, h⟩ := ba h
      obtain ⟨h1, h⟩ := ba h
      obtain ⟨h2, h⟩ := ba h
      obtain ⟨h3, h⟩ := ba h
      obtain ⟨h4, h⟩ := ba h
      obtain ⟨h5, h⟩ := ba h
      obtain ⟨h6, h⟩ := ba h
      obtain ⟨h7, h8⟩ := ba h
      have bk := blk_ok F h1
      refine .of (jb_comp (F.calm h0).1 F.ndX (sI it (fz := false) F (fun z => by cases z) h4) bk (own_is T t) (fun s H C cl fp => sTgt (F.blk h0 bk.kind s H C cl fp) h2)
        (mt := asT (Py.ev L q)) (fun s H C cl fp => pts_one (tT_blk ((sE q (F.blk h0 bk.kind s H C cl fp) h8).val (nb h7)).jt)) (fun s H C cl fp => tE_blk ((sE e (F.blk h0 bk.kind s H C cl fp) h6).val (nb h5)).je) (set_fold h3) ?_) rfl
      funext r
      have e1 : (fun x => Py.noexc (Py.bnd (Py.lif (Py.bindT (Py.wipeT r t) t x)) fun r' => Py.bnd (Py.ev L q r') fun k => Py.bnd (Py.lif (Py.tru k)) fun k => if k = true then Py.bnd (Py.ev L e r') fun y => Py.ret (some y) else Py.ret none)) = cStep t (asT (Py.ev L q)) (Py.ev L e) r := funext fun x => cmpi_eq x
      show Py.bnd (Py.evi L it r) (fun xs => Py.bnd (Py.compM xs (fun x => Py.noexc (Py.bnd (Py.lif (Py.bindT (Py.wipeT r t) t x)) fun r' => Py.bnd (Py.ev L q r') fun k => Py.bnd (Py.lif (Py.tru k)) fun k => if k = true then Py.bnd (Py.ev L e r') fun y => Py.ret (some y) else Py.ret none))) fun ys => Py.ret (Py.D.lst ys)) = _
      rw [e1]
    · cases h
theorem sEs {T : Tb} {L : Py.Lk} : ∀ (es : Py.Es) {c : Ct} {S : Sc} {xs : List Expr}, Fine c T L S → mEs T es S xs = true → ∀ ks, fits es ks → JA c ks xs (Py.evs L es)
  | .nil, c, S, xs, F, h, ks, hk => by
    simp only [mEs] at h
    split at h
    · cases ks with
      | nil => exact ja_nil
      | cons _ _ => exact hk.elim
    · cases h
  | .cons e r, c, S, xs, F, h, ks, hk => by
    simp only [mEs] at h
    split at h
    · obtain ⟨h1, h⟩ := ba h
      obtain ⟨h2, h3⟩ := ba h
      cases ks with
      | nil => exact hk.elim
      | cons k ks => exact ja_cons ((sE e F h2).at hk.1) (sEs r F h3 ks hk.2) (star_cons h1)
    · cases h
theorem sI {T : Tb} {L : Py.Lk} : ∀ (it : Py.It) {fz : Bool} {c : Ct} {S : Sc} {tg x : Expr}, Fine c T L S → (fz = true → fzI it = true) → mI T it S tg x = true → JI c fz tg x (Py.evi L it)
  | .seq a, fz, c, S, tg, x, F, hz, h => by
    simp only [mI] at h
    obtain ⟨k, k1, k2⟩ := opk_of (e := a) hz
    exact ji_seq k2 ((sE a F h).at k1)
  | .rng1 a, fz, c, S, tg, x, F, hz, h => by
    simp only [mI] at h
    split at h
    · obtain ⟨h1, h⟩ := ba h
      obtain ⟨h2, h⟩ := ba h
      obtain ⟨h3, h4⟩ := ba h
      obtain ⟨e1, g1, _⟩ := F.nm h1
      have g3 := F.free h2
      subst e1
      exact ji_rng1 (sE a F h4).je g1 g3 (star_one h3)
    · cases h
  | .rng2 a b, fz, c, S, tg, x, F, hz, h => by
    simp only [mI] at h
    split at h
    · obtain ⟨h1, h⟩ := ba h
      obtain ⟨h2, h⟩ := ba h
      obtain ⟨h3, h⟩ := ba h
      obtain ⟨h4, h⟩ := ba h
      obtain ⟨h5, h6⟩ := ba h
      obtain ⟨e1, g1, _⟩ := F.nm h1
      have g3 := F.free h2
      subst e1
      exact ji_rng2 (sE a F h5).je (sE b F h6).je g1 g3 (by rw [star_cons h3, star_one h4]) (star_one h4)
    · cases h
  | .zip a b, fz, c, S, tg, x, F, hz, h => by
    simp only [mI] at h
    split at h
    · obtain ⟨h1, h⟩ := ba h
      obtain ⟨h2, h⟩ := ba h
      obtain ⟨h3, h⟩ := ba h
      obtain ⟨h4, h⟩ := ba h
      obtain ⟨h5, h6⟩ := ba h
      obtain ⟨e1, g1, _⟩ := F.nm h1
      have g3 := F.free h2
      subst e1
      obtain ⟨k, k1, k2⟩ := opk_of (e := a) fun z => (ba (hz z)).1
      obtain ⟨k', k3, k4⟩ := opk_of (e := b) fun z => (ba (hz z)).2
      exact ji_zip k2 k4 ((sE a F h5).at k1) ((sE b F h6).at k3) g1 g3 (star_cons h3) (star_cons h4) (star_any (by simp [h4]))
    · cases h
  | .enum a, fz, c, S, tg, x, F, hz, h => by
    simp only [mI] at h
    split at h
    · obtain ⟨h1, h⟩ := ba h
      obtain ⟨h2, h⟩ := ba h
      obtain ⟨h3, h4⟩ := ba h
      obtain ⟨e1, g1, _⟩ := F.nm h1
      have g3 := F.free h2
      subst e1
      obtain ⟨k, k1, k2⟩ := opk_of (e := a) hz
      exact ji_enum k2 ((sE a F h4).at k1) g1 g3 (star_one h3)
    · cases h
end
end PyS

end
section
namespace PyS
open PySem PySem.Spec PyProof.Rows L2
def isFrs (e : Py.E) : Bool := match kd e with
  | .frs => true
  | _ => false
theorem frs_is {e : Py.E} (h : isFrs e = true) : kd e = .frs := by
  unfold isFrs at h
  cases hk : kd e <;> rw [hk] at h <;> first | rfl | cases h
def isComp : Py.E → Bool
  | .cmp0 .. => true
  | .cmpi .. => true
  | _ => false
def swB (S : Sc) (v : Expr) (x : Str) (p : Pos) : Bool := match v with
  | .ListComp _ _ scope vp => decide (S.sc.names.lookup x = some .local) && (p.line == vp.line && !(scope.names.any fun (n, k) => n == x && (k == .local || k == .cell)))
  | _ => true
def swOk (S : Sc) (e : Py.E) (v : Expr) (x : Str) (p : Pos) : Bool := notComp v || (!swB S v x p || (S.calm && (isComp e && decide (S.sc.names.lookup x = some .local))))
def locN (T : Tb) (S : Sc) (i : Nat) (x : Str) : Bool := decide (T.N[i]? = some x) && decide (S.sc.names.lookup x = some .local)
def parK : List (Bool × Nat) → Py.Es → Bool
  | [], .nil => true
  | (b, _) :: ts, .cons e r => (if b then isFrs e else noPk e) && parK ts r
  | _, _ => false
def notTup : Expr → Bool
  | .Tuple .. => false
  | _ => true
def swNo (ts vs : List Expr) : Bool := (!(ts.length == 2 || ts.length == 3)) || vs.all (foldedForSure 8)
def Sc.suite (S : Sc) (i : Nat) : Sc := { S with calm := false, top := false, hot := some i }
def isFrz : Py.S → Bool
  | .frz _ => true
  | _ => false
mutual
def mS (T : Tb) : Py.S → Sc → Stmt → Bool
  | .asg i e, S, st => (match st with
    | .Assign [.Name x p] v _ => tgB T S i x && (noPk e && (mE T e S v && swOk S e v x p))
    | _ => false)
  | .own i e, S, st => (match st with
    | .Assign [.Name x p] v _ => tgB T S i x && (isFrs e && (mE T e S v && swOk S e v x p))
    | _ => false)
  | .par ts es, S, st => S.calm && (match st with
    | .Assign [.Tuple tgs kt tp] (.Tuple vs k2 tp2) _ => (match ts, tgs, vs with
      | [(b1, i), (b2, j)], [.Name x px, .Name y py], [e, f] => if [e, f].all (foldedForSure 8) then !b1 && (!b2 && (Es.all es && (mEs T es S [e, f] && mTgs T S [i, j] [.Name x px, .Name y py])))
          else locN T S i x && (locN T S j y && (decide (i ≠ j) && (px.line == py.line && (decide (x ≠ y) && (!([e, f].all (constantsAlone 8)) && (parK [(b1, i), (b2, j)] es && mEs T es S [e, f]))))))
      | [(b1, i), (b2, j), (b3, l)], [.Name x px, .Name y py, .Name z pz], [e, f, g] => if [e, f, g].all (foldedForSure 8) then !b1 && (!b2 && (!b3 && (Es.all es && (mEs T es S [e, f, g] && mTgs T S [i, j, l] [.Name x px, .Name y py, .Name z pz]))))
          else locN T S i x && (locN T S j y && (locN T S l z && (decide (i ≠ j) && (decide (i ≠ l) && (decide (j ≠ l) && (px.line == py.line && (px.line == pz.line && (decide (x ≠ y) && (decide (x ≠ z) && (decide (y ≠ z) &&
            (!([e, f, g].all (constantsAlone 8)) && (parK [(b1, i), (b2, j), (b3, l)] es && mEs T es S [e, f, g]))))))))))))
      | ts, tgs, vs => ts.all (fun t => !t.1) && (!(tgs.length == 2 || tgs.length == 3) && (Es.all es && (mEs T es S vs && (decide (vs.length ≤ 1000) && mTgs T S (ts.map (·.2)) tgs)))))
    | _ => false)
  | .unp is e, S, st => (match st with
    | .Assign [.Tuple tgs _ _] v _ => S.calm && (notTup v && (noPk e && (mE T e S v && mTgs T S is tgs)))
    | _ => false)
  | .app i e, S, st => (match st with
    | .Expr (.Call (.Attribute (.Name x _) n apos) [v] [] cpos) _ => decide (n = "append") && (nmB T S i x && (noPk e && (mE T e S v && (notStar v && decide (apos.endLine = cpos.line)))))
    | _ => false)
  | .ext i e, S, st => (match st with
    | .Expr (.Call (.Attribute (.Name x _) n apos) [v] [] cpos) _ => decide (n = "extend") && (nmB T S i x && (mE T e S v && (notStar v && decide (apos.endLine = cpos.line))))
    | _ => false)
  | .popA j i, S, st => (match st with
    | .Assign [.Name y _] (.Call (.Attribute (.Name x _) n apos) [] [] cpos) _ => decide (n = "pop") && (nmB T S i x && (tgB T S j y && decide (apos.endLine = cpos.line)))
    | _ => false)
  | .popS j i k, S, st => false
  | .setL i k e, S, st => false
  | .frz i, S, st => false
  | .exp e, S, st => (match st with
    | .Expr v _ => noPk e && (mE T e S v && notComp v)
    | _ => false)
  | .ifs k t f, S, st => (match st with
    | .If v a b _ => noPk k && (mE T k S v && (mSs T t S a && mSs T f S b))
    | _ => false)
  | .fo t it b, S, st => (match st with
    | .For tg iter body [] _ => S.calm && (mTgt T S t tg && (notSet iter && (fzI it && (mI T it S tg iter && mSs T b S body))))
    | _ => false)
  | .whl n k b, S, st => (match st with
    | .While v body [] _ => noPk k && (mE T k S v && mSs T b S body)
    | _ => false)
  | .retE e, S, st => (match st with
    | .Return (some v) _ => noPk e && mE T e S v
    | _ => false)
  | .retO i, S, st => (match st with
    | .Return (some (.Name x _)) _ => nmB T S i x
    | _ => false)
  | .retN, S, st => (match st with
    | .Return none _ => true
    | _ => false)
  | .rse n, S, st => (match st with
    | .Raise (some (.Call (.Name x _) [.Constant (.str _) _ _] [] _)) none _ => S.calm && (decide (T.cs[n]? = some x) && glB S x)
    | _ => false)
  | .trx b (some i) s, S, st => (match st with
    | .Try body [.ExceptHandler (some (.Name x _)) (some nm) (b0 :: suite) _] [] [] _ => S.calm && (S.top && (locN T S i nm && (glB S x && (decide (T.cs[T.cs.idxOf x]? = some x) &&
        ((List.range T.cs.length).all (fun n => T.sub n (T.cs.idxOf x)) && (mSs T b S body && mSs T s (S.suite i) (b0 :: suite)))))))
    | _ => false)
  | .trx b none s, S, st => false
def mSs (T : Tb) : Py.Ss → Sc → List Stmt → Bool
  | .nil, S, sts => (match sts with
    | [] => true
    | _ => false)
  | .cons s r, S, sts => if isFrz s = true then mSs T r S sts else (match sts with
      | st :: sts => mS T s S st && mSs T r S sts
      | [] => false)
end
end PyS

end
section
namespace PyS
open PySem PySem.Spec PyProof.Rows L2
section
variable {c : Ct} {T : Tb} {L : Py.Lk} {S : Sc} {x : Expr} {m : Py.Env → Py.M Py.D} {k k' : Kd}
theorem Fine.bk (F : Fine c T L S) : c.X.env.blockKind = .function := by
  have h : c.X.env.scope.kind = .function := by rw [F.sc]; exact F.kind
  unfold PySem.Env.blockKind
  rw [h]
  rfl
theorem sw_eq {v : Expr} {x : Str} {p : Pos} {l : Nat} (F : Fine c T L S) (hv : notComp v = false → ∃ elt gens scope vp, v = .ListComp elt gens scope vp) : swapsWith v (some (.Name x p)) l c.X.env = pure (!notComp v && swB S v x p) := by
  cases hn : notComp v with
  | true => rw [comp_swaps hn]; rfl
  | false =>
    obtain ⟨elt, gens, scope, vp, rfl⟩ := hv hn
    unfold swapsWith swB
    simp only [F.bk, F.lk]
    congr 1
    cases h : S.sc.names.lookup x with
    | none => rfl
    | some kk => cases kk <;> rfl
/-- a comprehension, in its parts -/
structure CompOk (c : Ct) (v : Expr) (m : Py.Env → Py.M Py.D) : Prop where
  go : ∀ {i : Nat} {y : Str} {py spos : Pos}, c.X.N[i]? = some y → c.X.env.scope.names.lookup y = some .local → swapsWith v (some (.Name y py)) spos.line c.X.env = pure true →
    JS c (.Assign [.Name y py] v spos) (fun r => Py.bndE r (m r) fun d => Py.nextS (r.set i (.v d))) ∧
    JS c (.Assign [.Name y py] v spos) (fun r => Py.bndE r (Py.bnd (m r) fun d => Py.lif (Py.slotOf true d)) fun s => Py.nextS (r.set i s))
theorem sComp {e : Py.E} {v : Expr} (F : Fine c T L S) (h : mE T e S v = true) (hc : isComp e = true) : CompOk c v (Py.ev L e) := by
  cases e <;> first | (cases hc; done) | skip
  case cmp0 t it e =>
    simp only [mE] at h
    split at h
    · rename_i elt tg iter scope pos
      obtain ⟨h0, h⟩ := ba h
      obtain ⟨h1, h⟩ := ba h
      obtain ⟨h2, h⟩ := ba h
      obtain ⟨h3, h⟩ := ba h
      obtain ⟨h4, h⟩ := ba h
      obtain ⟨h5, h6⟩ := ba h
      have bk := blk_ok F h1
      exact ⟨fun hy hl hs => js_asgLc (F.calm h0).1 F.ndX hy hl hs (sI it (fz := false) F (fun z => by cases z) h4) bk (own_is T t) (fun s H C cl fp => sTgt (F.blk h0 bk.kind s H C cl fp) h2)
        (mt := fun _ => Py.ret true) (me := Py.ev L e) (fun s H C cl fp => ⟨fun pins s σ H Q I q => pts_nil.run pins s σ H Q I (tT.ret q)⟩) (fun s H C cl fp => tE_blk ((sE e (F.blk h0 bk.kind s H C cl fp) h6).val (nb h5)).je) (set_fold h3) rfl⟩
    · cases h
  case cmpi t it q e =>
    simp only [mE] at h
    split at h
    · rename_i elt tg iter cd scope pos
      obtain ⟨h0, h⟩ := ba h
      obtain ⟨h1, h⟩ := ba h
      obtain ⟨h2, h⟩ := ba h
      obtain ⟨h3, h⟩ := ba h
      obtain ⟨h4, h⟩ := ba h
      obtain ⟨h5, h⟩ := ba h
      obtain ⟨h6, h⟩ := ba h
      obtain ⟨h7, h8⟩ := ba h
      have bk := blk_ok F h1
      refine ⟨fun hy hl hs => js_asgLc (F.calm h0).1 F.ndX hy hl hs (sI it (fz := false) F (fun z => by cases z) h4) bk (own_is T t) (fun s H C cl fp => sTgt (F.blk h0 bk.kind s H C cl fp) h2)
        (mt := asT (Py.ev L q)) (me := Py.ev L e) (fun s H C cl fp => pts_one (tT_blk ((sE q (F.blk h0 bk.kind s H C cl fp) h8).val (nb h7)).jt)) (fun s H C cl fp => tE_blk ((sE e (F.blk h0 bk.kind s H C cl fp) h6).val (nb h5)).je) (set_fold h3) ?_⟩
      funext r
      have e1 : (fun x => Py.noexc (Py.bnd (Py.lif (Py.bindT (Py.wipeT r t) t x)) fun r' => Py.bnd (Py.ev L q r') fun k => Py.bnd (Py.lif (Py.tru k)) fun k => if k = true then Py.bnd (Py.ev L e r') fun y => Py.ret (some y) else Py.ret none)) = cStep t (asT (Py.ev L q)) (Py.ev L e) r := funext fun x => cmpi_eq x
      show Py.bnd (Py.evi L it r) (fun xs => Py.bnd (Py.compM xs (fun x => Py.noexc (Py.bnd (Py.lif (Py.bindT (Py.wipeT r t) t x)) fun r' => Py.bnd (Py.ev L q r') fun k => Py.bnd (Py.lif (Py.tru k)) fun k => if k = true then Py.bnd (Py.ev L e r') fun y => Py.ret (some y) else Py.ret none))) fun ys => Py.ret (Py.D.lst ys)) = _
      rw [e1]
    · cases h
theorem comp_lc {e : Py.E} {v : Expr} (h : mE T e S v = true) (hn : notComp v = false) : ∃ elt gens scope vp, v = .ListComp elt gens scope vp := by
  cases v <;> first | (cases hn; done) | skip
  case ListComp => exact ⟨_, _, _, _, rfl⟩
  all_goals
    exfalso
    cases e <;> simp only [mE] at h <;> first | (cases h; done) | skip
    case cst d => cases d <;> cases h
    all_goals (split at h <;> cases h)
/-- x = value -/
theorem s_asg {i : Nat} {e : Py.E} {x : Str} {p pos : Pos} {v : Expr} (F : Fine c T L S) (h1 : tgB T S i x = true) (h2 : noPk e = true) (h3 : mE T e S v = true) (h4 : swOk S e v x p = true) :
    JS c (.Assign [.Name x p] v pos) (fun r => Py.bndE r (Py.ev L e r) fun d => Py.nextS (r.set i (.v d))) := by
  obtain ⟨g1, g2, g3⟩ := F.tgB h1
  have hs := sw_eq (p := p) (l := pos.line) (x := x) F (comp_lc h3)
  cases hb : (!notComp v && swB S v x p) with
  | false =>
    rw [hb] at hs
    exact js_asg F.ndX g1 g2 ((sE e F h3).val (nb h2)).je hs g3
  | true =>
    rw [hb] at hs
    obtain ⟨k1, k2⟩ := ba hb
    unfold swOk at h4
    rw [nb k1, k2] at h4
    obtain ⟨h5, h6⟩ := ba (show (S.calm && (isComp e && decide (S.sc.names.lookup x = some .local))) = true from h4)
    obtain ⟨h6, h7⟩ := ba h6
    exact ((sComp F h3 h6).go g1 (by rw [F.sc]; exact of_decide_eq_true h7) hs).1
theorem s_own {i : Nat} {e : Py.E} {x : Str} {p pos : Pos} {v : Expr} (F : Fine c T L S) (h1 : tgB T S i x = true) (h2 : isFrs e = true) (h3 : mE T e S v = true) (h4 : swOk S e v x p = true) :
    JS c (.Assign [.Name x p] v pos) (fun r => Py.bndE r (Py.bnd (Py.ev L e r) fun d => Py.lif (Py.slotOf true d)) fun s => Py.nextS (r.set i s)) := by
  obtain ⟨g1, g2, g3⟩ := F.tgB h1
  have hs := sw_eq (p := p) (l := pos.line) (x := x) F (comp_lc h3)
  cases hb : (!notComp v && swB S v x p) with
  | false =>
    rw [hb] at hs
    have je := (sE e F h3).je
    rw [frs_is h2] at je
    exact js_own F.ndX g1 g2 je hs g3
  | true =>
    rw [hb] at hs
    obtain ⟨k1, k2⟩ := ba hb
    unfold swOk at h4
    rw [nb k1, k2] at h4
    obtain ⟨h5, h6⟩ := ba (show (S.calm && (isComp e && decide (S.sc.names.lookup x = some .local))) = true from h4)
    obtain ⟨h6, h7⟩ := ba h6
    exact ((sComp F h3 h6).go g1 (by rw [F.sc]; exact of_decide_eq_true h7) hs).2
/-! ### a, b = .. -/
theorem Fine.locN {i : Nat} {x : Str} (F : Fine c T L S) (h : locN T S i x = true) : c.X.N[i]? = some x ∧ c.X.env.scope.names.lookup x = some .local := by
  obtain ⟨h1, h2⟩ := ba h
  exact ⟨by rw [F.N]; exact of_decide_eq_true h1, by rw [F.sc]; exact of_decide_eq_true h2⟩
theorem parK_fits : ∀ {ts : List (Bool × Nat)} {es : Py.Es}, parK ts es = true → fits es (pKs ts)
  | [], .nil, _ => trivial
  | [], .cons _ _, h => by cases h
  | (b, i) :: ts, .nil, h => by cases h
  | (b, i) :: ts, .cons e r, h => by
    obtain ⟨h1, h2⟩ := ba h
    refine ⟨?_, parK_fits h2⟩
    cases b with
    | true => exact .inl (frs_is h1).symm
    | false =>
      have h1 : noPk e = true := h1
      unfold noPk at h1
      show Fits (kd e) .val
      cases hk : kd e with
      | val => exact .inl rfl
      | frs => exact .inr ⟨rfl, rfl⟩
      | pk i => rw [hk] at h1; cases h1
theorem mEs_star : ∀ {es : Py.Es} {xs : List Expr}, mEs T es S xs = true → xs.all notStar = true
  | .nil, [], _ => rfl
  | .nil, _ :: _, h => by simp [mEs] at h
  | .cons e r, [], h => by simp [mEs] at h
  | .cons e r, x :: xs, h => by
    simp only [mEs] at h
    obtain ⟨h1, h⟩ := ba h
    obtain ⟨_, h⟩ := ba h
    show (notStar x && xs.all notStar) = true
    rw [h1, mEs_star h]
    rfl
theorem star_no : ∀ {vs : List Expr}, vs.all notStar = true → (vs.any fun | .Starred .. => true | _ => false) = false
  | [], _ => rfl
  | v :: vs, h => by
    obtain ⟨h1, h2⟩ := ba (show (notStar v && vs.all notStar) = true from h)
    rw [List.any_cons, star_no h2]
    cases v <;> first | rfl | cases h1
theorem not_star {v : Expr} (h : notStar v = true) : (match v with | .Starred .. => true | _ => false) = false := by cases v <;> first | rfl | cases h
theorem er2 {x y : Str} (hxy : x ≠ y) : ([x, y].eraseDups).length = 2 := by
  have h1 : (y == x) = false := by simp [Ne.symm hxy]
  have h2 : (x == y) = false := by simp [hxy]
  simp [List.eraseDups, List.eraseDupsBy, List.eraseDupsBy.loop, h1, h2]
theorem er3 {x y z : Str} (hxy : x ≠ y) (hxz : x ≠ z) (hyz : y ≠ z) : ([x, y, z].eraseDups).length = 3 := by
  have h1 : (y == x) = false := by simp [Ne.symm hxy]
  have h2 : (x == y) = false := by simp [hxy]
  have h3 : (z == x) = false := by simp [Ne.symm hxz]
  have h4 : (x == z) = false := by simp [hxz]
  have h5 : (z == y) = false := by simp [Ne.symm hyz]
  have h6 : (y == z) = false := by simp [hyz]
  simp [List.eraseDups, List.eraseDupsBy, List.eraseDupsBy.loop, h1, h2, h3, h4, h5, h6]
theorem sw2 {x y : Str} {px py pt pt2 : Pos} {kt k2 : Nat} {e f : Expr} (F : Fine c T L S) (hx : S.sc.names.lookup x = some .local) (hy : S.sc.names.lookup y = some .local) (hl : (px.line == py.line) = true) (hxy : x ≠ y) (hst : [e, f].all notStar = true) (h1 : [e, f].all (foldedForSure 8) = false) (h2 : [e, f].all (constantsAlone 8) = false) :
    swappedStores [.Tuple [.Name x px, .Name y py] kt pt] (.Tuple [e, f] k2 pt2) c.X.env = pure (some [x, y]) := by
  have hl' : py.line = px.line := (eq_of_beq hl).symm
  have hb : (c.X.env.blockKind != .function) = false := by rw [F.bk]; rfl
  have hlk : ∀ z, c.X.env.kindOf z = S.sc.names.lookup z := F.lk
  obtain ⟨s1, s2⟩ := ba (show (notStar e && [f].all notStar) = true from hst)
  obtain ⟨s2, _⟩ := ba (show (notStar f && [].all notStar) = true from s2)
  unfold swappedStores
  simp only [List.length_cons, List.length_nil, hb, star_no hst, h1, h2]
  simp [hlk, hx, hy, List.filterMap_cons, hl', Expr.pos, er2 hxy]
  intro h
  exfalso
  rcases h with h | h
  · cases e <;> first | (cases h; done) | cases s1
  · cases f <;> first | (cases h; done) | cases s2
theorem sw3 {x y z : Str} {px py pz pt pt2 : Pos} {kt k2 : Nat} {e f g : Expr} (F : Fine c T L S) (hx : S.sc.names.lookup x = some .local) (hy : S.sc.names.lookup y = some .local) (hz : S.sc.names.lookup z = some .local) (hl : (px.line == py.line) = true) (hl2 : (px.line == pz.line) = true) (hxy : x ≠ y) (hxz : x ≠ z) (hyz : y ≠ z)
    (hst : [e, f, g].all notStar = true) (h1 : [e, f, g].all (foldedForSure 8) = false) (h2 : [e, f, g].all (constantsAlone 8) = false) :
    swappedStores [.Tuple [.Name x px, .Name y py, .Name z pz] kt pt] (.Tuple [e, f, g] k2 pt2) c.X.env = pure (some [x, y, z]) := by
  have hl' : py.line = px.line := (eq_of_beq hl).symm
  have hl2' : pz.line = px.line := (eq_of_beq hl2).symm
  have hb : (c.X.env.blockKind != .function) = false := by rw [F.bk]; rfl
  have hlk : ∀ z, c.X.env.kindOf z = S.sc.names.lookup z := F.lk
  obtain ⟨s1, s2⟩ := ba (show (notStar e && [f, g].all notStar) = true from hst)
  obtain ⟨s2, s3⟩ := ba (show (notStar f && [g].all notStar) = true from s2)
  obtain ⟨s3, _⟩ := ba (show (notStar g && [].all notStar) = true from s3)
  unfold swappedStores
  simp only [List.length_cons, List.length_nil, hb, star_no hst, h1, h2]
  simp [hlk, hx, hy, hz, List.filterMap_cons, hl', hl2', Expr.pos, er3 hxy hxz hyz]
  intro h
  exfalso
  rcases h with h | h | h
  · cases e <;> first | (cases h; done) | cases s1
  · cases f <;> first | (cases h; done) | cases s2
  · cases g <;> first | (cases h; done) | cases s3
theorem sw0 {ts vs : List Expr} {kt k2 : Nat} {pt pt2 : Pos} {env : PySem.Env} (h : (ts.length == 2 || ts.length == 3) = false) : swappedStores [.Tuple ts kt pt] (.Tuple vs k2 pt2) env = pure none := by
  unfold swappedStores
  simp only [h]
  rfl
theorem swF {ts vs : List Expr} {kt k2 : Nat} {pt pt2 : Pos} {env : PySem.Env} (h : vs.all (foldedForSure 8) = true) : swappedStores [.Tuple ts kt pt] (.Tuple vs k2 pt2) env = pure none := by
  unfold swappedStores
  simp only [h]
  repeat' (first | rfl | split)
theorem sw_tup {ts : List Expr} {v : Expr} {kt : Nat} {pt : Pos} {env : PySem.Env} (h : notTup v = true) : swappedStores [.Tuple ts kt pt] v env = pure none := by cases v <;> first | rfl | cases h
theorem sole_tup {ts : List Expr} {v : Expr} {kt : Nat} {pt : Pos} {l : Nat} {env : PySem.Env} : swapsWithSole [.Tuple ts kt pt] v l env = pure false := by cases v <;> rfl
end
end PyS

end
section
namespace PyS
open PySem PySem.Spec PyProof.Rows L2
theorem Fine.trd {c : Ct} {T : Tb} {L : Py.Lk} {S : Sc} (F : Fine c T L S) (ht : S.top = true) {W : WX} {pn : List (Addr × Obj)} {xe : Value → Shared → Prop} (tk : Takes (c.X.tr pn xe) W) (po : PassesOwn (model c.X.prog c.X.w) c.X.A c.X.env xe) :
    Fine (c.trd (c.X.tr pn xe) W) T L S where
  sc := F.sc
  N := F.N
  nd := F.nd
  fn := F.fn
  un := F.un
  po := po
  tk := tk
  calm := F.calm
  bl := F.bl
  df := fun i x n h => let ⟨a, h1, h2, h3⟩ := F.df i x n h; ⟨a, h1, h2, fun z => ⟨(h3 z).ok, (h3 z).kp⟩⟩
  fa := F.fa
  ln := F.ln
  gl := F.gl
  cl := F.cl
  sub := F.sub
  ec := F.ec
  eb := F.eb
  top := F.top
  hot := fun i h => by rw [F.th ht] at h; cases h
  kind := F.kind
  sb := F.sb
  th := F.th
theorem jss_frz' {c : Ct} {L : Py.Lk} {s : Py.S} {sts : List Stmt} {m2 : Py.Env → Py.SM} (h : isFrz s = true) (h2 : JSs c sts m2) : JSs c sts (fun r => Py.seqS (Py.evS L s r) m2) := by
  cases s <;> first | (cases h; done) | exact jss_frz h2
theorem Fine.hotC {c : Ct} {T : Tb} {L : Py.Lk} {S : Sc} (F : Fine c T L S) {i n : Nat} {a C1 : Addr} {oe : Obj} {pn : List (Addr × Obj)} (he : c.eA n = some C1) (hz : Zc (.ref C1) none oe) (hf : ∃ vs, oe.data = .fields vs) :
    Fine (c.hot (c.X.suite a ((a, oe) :: pn)) (some (i, a, n))) T L (S.suite i) where
  sc := F.sc
  N := F.N
  nd := F.nd
  fn := F.fn
  un := F.un
  po := PassesOwn.never
  tk := takes0
  calm := fun z => by cases z
  bl := F.bl
  df := fun i x n h => let ⟨a, h1, h2, h3⟩ := F.df i x n h; ⟨a, h1, h2, fun z => by cases z⟩
  fa := F.fa
  ln := F.ln
  gl := F.gl
  cl := F.cl
  sub := F.sub
  ec := F.ec
  eb := F.eb
  top := fun z => by cases z
  hot := fun j h => by
    cases h
    exact ⟨a, n, C1, rfl, he, call_isE (F.ec n C1 he) hz hf⟩
  kind := F.kind
  sb := F.sb
  th := fun z => by cases z
set_option maxHeartbeats 1000000
mutual
theorem sS {T : Tb} {L : Py.Lk} : ∀ (s : Py.S) {c : Ct} {S : Sc} {st : Stmt}, Fine c T L S → mS T s S st = true → JS c st (Py.evS L s)
  | .asg i e, c, S, st, F, h => by
    simp only [mS] at h
    split at h
    · obtain ⟨h1, h⟩ := ba h
      obtain ⟨h2, h⟩ := ba h
      obtain ⟨h3, h4⟩ := ba h
      exact s_asg F h1 h2 h3 h4
    · cases h
  | .own i e, c, S, st, F, h => by
    simp only [mS] at h
    split at h
    · obtain ⟨h1, h⟩ := ba h
      obtain ⟨h2, h⟩ := ba h
      obtain ⟨h3, h4⟩ := ba h
      exact s_own F h1 h2 h3 h4
    · cases h
  | .par ts es, c, S, st, F, h => by
    simp only [mS] at h
    obtain ⟨h0, h⟩ := ba h
    have hc := (F.calm h0).1
    split at h
    · rename_i tgs kt tp vs k2 tp2 pos
      split at h
      · rename_i b1 i b2 j x px y py e f
        split at h
        · rename_i hf
          obtain ⟨h1, h⟩ := ba h
          obtain ⟨h2, h⟩ := ba h
          obtain ⟨h3, h⟩ := ba h
          obtain ⟨h4, h5⟩ := ba h
          obtain rfl := nb h1
          obtain rfl := nb h2
          obtain ⟨k1, k2, k3⟩ := sTgs F h5
          have ja := sEs es F h4 _ (fits_vals h3)
          exact js_parN (is := [i, j]) hc ja (by rw [mEs_len h4]; show 2 ≤ 1000; decide) k1 k2 k3 (swF hf)
        · rename_i hf
          obtain ⟨h1, h⟩ := ba h
          obtain ⟨h2, h⟩ := ba h
          obtain ⟨h3, h⟩ := ba h
          obtain ⟨h4, h⟩ := ba h
          obtain ⟨h5, h⟩ := ba h
          obtain ⟨h6, h⟩ := ba h
          obtain ⟨h7, h8⟩ := ba h
          obtain ⟨g1, g2⟩ := F.locN h1
          obtain ⟨g3, g4⟩ := F.locN h2
          have ja := sEs es F h8 _ (parK_fits h7)
          exact js_par2 hc F.ndX g1 g3 (of_decide_eq_true h3) g2 g4 ja (sw2 F (by rw [← F.sc]; exact g2) (by rw [← F.sc]; exact g4) h4 (of_decide_eq_true h5) (mEs_star h8) (by simpa using hf) (nb h6))
      · rename_i b1 i b2 j b3 l x px y py z pz e f g
        split at h
        · rename_i hf
          obtain ⟨h1, h⟩ := ba h
          obtain ⟨h2, h⟩ := ba h
          obtain ⟨h2', h⟩ := ba h
          obtain ⟨h3, h⟩ := ba h
          obtain ⟨h4, h5⟩ := ba h
          obtain rfl := nb h1
          obtain rfl := nb h2
          obtain rfl := nb h2'
          obtain ⟨k1, k2, k3⟩ := sTgs F h5
          have ja := sEs es F h4 _ (fits_vals h3)
          exact js_parN (is := [i, j, l]) hc ja (by rw [mEs_len h4]; show 3 ≤ 1000; decide) k1 k2 k3 (swF hf)
        · rename_i hf
          obtain ⟨h1, h⟩ := ba h
          obtain ⟨h2, h⟩ := ba h
          obtain ⟨h2', h⟩ := ba h
          obtain ⟨h3, h⟩ := ba h
          obtain ⟨h3', h⟩ := ba h
          obtain ⟨h3'', h⟩ := ba h
          obtain ⟨h4, h⟩ := ba h
          obtain ⟨h4', h⟩ := ba h
          obtain ⟨h5, h⟩ := ba h
          obtain ⟨h5', h⟩ := ba h
          obtain ⟨h5'', h⟩ := ba h
          obtain ⟨h6, h⟩ := ba h
          obtain ⟨h7, h8⟩ := ba h
          obtain ⟨g1, g2⟩ := F.locN h1
          obtain ⟨g3, g4⟩ := F.locN h2
          obtain ⟨g5, g6⟩ := F.locN h2'
          have ja := sEs es F h8 _ (parK_fits h7)
          exact js_par3 hc F.ndX g1 g3 g5 (of_decide_eq_true h3) (of_decide_eq_true h3') (of_decide_eq_true h3'') g2 g4 g6 ja
            (sw3 F (by rw [← F.sc]; exact g2) (by rw [← F.sc]; exact g4) (by rw [← F.sc]; exact g6) h4 h4' (of_decide_eq_true h5) (of_decide_eq_true h5') (of_decide_eq_true h5'') (mEs_star h8) (by simpa using hf) (nb h6))
      · obtain ⟨h1, h⟩ := ba h
        obtain ⟨h2, h⟩ := ba h
        obtain ⟨h3, h⟩ := ba h
        obtain ⟨h4, h⟩ := ba h
        obtain ⟨h5, h6⟩ := ba h
        obtain ⟨k1, k2, k3⟩ := sTgs F h6
        have ja := sEs es F h4 _ (fits_vals h3)
        have e1 : (ts.map (·.2)).map (fun i => (false, i)) = ts := by
          rw [List.map_map]
          have : ∀ t ∈ ts, ((fun i => (false, i)) ∘ fun x : Bool × Nat => x.2) t = t := fun t ht => by
            have := List.all_eq_true.mp h1 t ht
            obtain ⟨b, i⟩ := t
            cases b
            · rfl
            · cases this
          exact (List.map_congr_left this).trans (List.map_id _)
        show JS c _ (fun r => Py.bndE r (Py.bnd (Py.evs L es r) fun ds => Py.lif (Py.setPar r ts ds)) Py.nextS)
        rw [← e1]
        exact js_parN hc ja (by rw [mEs_len h4]; exact of_decide_eq_true h5) k1 k2 k3 (sw0 (nb h2))
    · cases h
  | .unp is e, c, S, st, F, h => by
    simp only [mS] at h
    split at h
    · obtain ⟨h0, h⟩ := ba h
      obtain ⟨h1, h⟩ := ba h
      obtain ⟨h2, h⟩ := ba h
      obtain ⟨h3, h4⟩ := ba h
      obtain ⟨k1, k2, k3⟩ := sTgs F h4
      exact js_unp (F.calm h0).1 ((sE e F h3).val (nb h2)).je k1 k2 k3 sole_tup (sw_tup h1)
    · cases h
  | .app i e, c, S, st, F, h => by
    simp only [mS] at h
    split at h
    · obtain ⟨h1, h⟩ := ba h
      obtain ⟨h2, h⟩ := ba h
      obtain ⟨h3, h⟩ := ba h
      obtain ⟨h4, h⟩ := ba h
      obtain ⟨h5, h6⟩ := ba h
      obtain ⟨g1, g2, g3, g4⟩ := F.nmB h2
      obtain rfl := of_decide_eq_true h1
      exact js_app g1 g2 g3 g4 ((sE e F h4).val (nb h3)).je (star_one h5) (by rw [of_decide_eq_true h6]; exact beq_self_eq_true _)
    · cases h
  | .ext i e, c, S, st, F, h => by
    simp only [mS] at h
    split at h
    · obtain ⟨h1, h⟩ := ba h
      obtain ⟨h2, h⟩ := ba h
      obtain ⟨h4, h⟩ := ba h
      obtain ⟨h5, h6⟩ := ba h
      obtain ⟨g1, g2, g3, g4⟩ := F.nmB h2
      obtain rfl := of_decide_eq_true h1
      exact js_ext g1 g2 g3 g4 (sE e F h4).je (star_one h5) (by rw [of_decide_eq_true h6]; exact beq_self_eq_true _)
    · cases h
  | .popA j i, c, S, st, F, h => by
    simp only [mS] at h
    split at h
    · obtain ⟨h1, h⟩ := ba h
      obtain ⟨h2, h⟩ := ba h
      obtain ⟨h4, h6⟩ := ba h
      obtain ⟨g1, g2, g3, g4⟩ := F.nmB h2
      obtain ⟨g5, g6, g7⟩ := F.tgB h4
      obtain rfl := of_decide_eq_true h1
      exact js_popA F.ndX g1 g2 g3 g4 g5 g6 g7 (by rw [of_decide_eq_true h6]; exact beq_self_eq_true _)
    · cases h
  | .popS j i k, c, S, st, F, h => by simp only [mS] at h; cases h
  | .setL i k e, c, S, st, F, h => by simp only [mS] at h; cases h
  | .frz i, c, S, st, F, h => by simp only [mS] at h; cases h
  | .exp e, c, S, st, F, h => by
    simp only [mS] at h
    split at h
    · obtain ⟨h1, h⟩ := ba h
      obtain ⟨h2, h3⟩ := ba h
      exact js_exp ((sE e F h2).val (nb h1)).je (comp_swaps h3)
    · cases h
  | .ifs k t f, c, S, st, F, h => by
    simp only [mS] at h
    split at h
    · obtain ⟨h1, h⟩ := ba h
      obtain ⟨h2, h⟩ := ba h
      obtain ⟨h3, h4⟩ := ba h
      exact js_if ((sE k F h2).val (nb h1)) (sSs t F h3) (sSs f F h4)
    · cases h
  | .fo t it b, c, S, st, F, h => by
    simp only [mS] at h
    split at h
    · obtain ⟨h0, h⟩ := ba h
      obtain ⟨h1, h⟩ := ba h
      obtain ⟨h2, h⟩ := ba h
      obtain ⟨h3, h⟩ := ba h
      obtain ⟨h4, h5⟩ := ba h
      exact js_for F.po (F.calm h0).1 (sI it F (fun _ => h3) h4) (sTgt F h1) (sSs b F h5) (set_fold h2)
    · cases h
  | .whl n k b, c, S, st, F, h => by
    simp only [mS] at h
    split at h
    · obtain ⟨h1, h⟩ := ba h
      obtain ⟨h2, h3⟩ := ba h
      exact js_while F.po ((sE k F h2).val (nb h1)) (sSs b F h3)
    · cases h
  | .retE e, c, S, st, F, h => by
    simp only [mS] at h
    split at h
    · obtain ⟨h1, h2⟩ := ba h
      exact js_ret ((sE e F h2).val (nb h1)).je
    · cases h
  | .retO i, c, S, st, F, h => by
    simp only [mS] at h
    split at h
    · obtain ⟨g1, g2, g3, g4⟩ := F.nmB h
      exact js_retO g1 g2 g3 g4
    · cases h
  | .retN, c, S, st, F, h => by
    simp only [mS] at h
    split at h
    · exact js_retN
    · cases h
  | .rse n, c, S, st, F, h => by
    simp only [mS] at h
    split at h
    · obtain ⟨h0, h⟩ := ba h
      obtain ⟨h1, h2⟩ := ba h
      obtain ⟨a, g1, g2, g3, g4, g5, g6⟩ := F.cl n _ (of_decide_eq_true h1)
      obtain ⟨g7, g8⟩ := F.glB h2
      exact js_rse (F.calm h0).1 F.tk g1 g3 g2 g4 g5 g6 g7 g8
    · cases h
  | .trx b (some i) s, c, S, st, F, h => by
    simp only [mS] at h
    split at h
    · rename_i body x np nm b0 suite pos' pos
      obtain ⟨h0, h⟩ := ba h
      obtain ⟨h1, h⟩ := ba h
      obtain ⟨h2, h⟩ := ba h
      obtain ⟨h3, h⟩ := ba h
      obtain ⟨h4, h⟩ := ba h
      obtain ⟨h5, h⟩ := ba h
      obtain ⟨h6, h7⟩ := ba h
      obtain ⟨t1, t2⟩ := F.top h1
      obtain ⟨g1, g2⟩ := F.locN h2
      obtain ⟨g3, g4⟩ := F.glB h3
      obtain ⟨C, k1, k2, _⟩ := F.cl _ _ (of_decide_eq_true h4)
      exact js_try t1 t2 F.ndX g1 g2 ⟨g3, g4, .inl k2⟩ F.tk (F.calm h0).2 (fun n a ha => by
        rw [(F.sub n _ a C ha k1).2, F.sb]
        rw [List.all_eq_true] at h5
        rw [h5 n (List.mem_range.mpr (F.eb n a ha))]) (fun W pn xe tk po => sSs b (F.trd h1 tk po) h6) (fun a oe n C1 pn he hz hf => sSs s (F.hotC he hz hf) h7)
    · cases h
  | .trx b none s, c, S, st, F, h => by simp only [mS] at h; cases h
theorem sSs {T : Tb} {L : Py.Lk} : ∀ (ss : Py.Ss) {c : Ct} {S : Sc} {sts : List Stmt}, Fine c T L S → mSs T ss S sts = true → JSs c sts (Py.evSs L ss)
  | .nil, c, S, sts, F, h => by
    simp only [mSs] at h
    split at h
    · exact jss_nil
    · cases h
  | .cons s r, c, S, sts, F, h => by
    simp only [mSs] at h
    split at h
    · rename_i hz
      exact jss_frz' hz (sSs r F h)
    · split at h
      · obtain ⟨h1, h2⟩ := ba h
        exact jss_cons (sS s F h1) (sSs r F h2)
      · cases h
end
end PyS

end
section
namespace PyS
open PySem PySem.Spec PyProof.Rows L2
/-! ### the whole text: every def keeps its promise -/
structure PD where
  name : Str
  N : List Str
  st : Stmt
  fd : Py.Fd
structure PT where
  ds : List PD
  gs : List (Str × Py.D)
  cs : List Str
  bl : List Str
  sub : Nat → Nat → Bool
def PD.ps (d : PD) : List Str := d.N.take d.fd.np
def PT.tb (p : PT) (N : List Str) : Tb := ⟨N, p.ds.map fun d => (d.name, d.fd.np), p.gs.map (·.1), p.cs, p.bl, p.sub⟩
def PT.g (p : PT) (i : Nat) : Py.D := (p.gs.getD i default).2
def PT.prog (p : PT) : Py.Prog := ⟨p.ds.map (·.fd), p.g, p.sub⟩
def scOf (st : Stmt) : Sc := ⟨defScope st, fun _ => true, true, true, none⟩
def scB (N P : List Str) (sc : Scope) : Bool :=
  decide (sc.kind = .function) && (!sc.isCoroutine && (!sc.isGenerator && (decide N.Nodup && (decide (N.take P.length = P) && (P.all (fun x => decide (sc.names.lookup x = some .local) || decide (sc.names.lookup x = some .cell)) && sc.names.all (fun y => !decide (y.2 = .free)))))))
theorem scB_ok {N P : List Str} {sc : Scope} (h : scB N P sc = true) : FnScope N P sc := by
  obtain ⟨h1, h⟩ := ba h
  obtain ⟨h2, h⟩ := ba h
  obtain ⟨h3, h⟩ := ba h
  obtain ⟨h4, h⟩ := ba h
  obtain ⟨h5, h⟩ := ba h
  obtain ⟨h6, h7⟩ := ba h
  rw [List.all_eq_true] at h6 h7
  refine ⟨of_decide_eq_true h1, nb h2, nb h3, of_decide_eq_true h4, of_decide_eq_true h5, fun x hx => ?_, fun y hy => ?_⟩
  · have := h6 x hx
    simpa using this
  · have := h7 y hy
    simpa using this
def PD.ok (p : PT) (d : PD) : Bool := scB d.N d.ps (defScope d.st) && (decide (d.fd.np ≤ d.N.length) && (decide (d.fd.nn = d.N.length) && mSs (p.tb d.N) d.fd.body (scOf d.st) (defBody d.st)))
structure Base (p : PT) (K : PySem.W.Frag) (mg : Str → Option Value) (fA eA : Nat → Option Addr) : Prop where
  df : ∀ (i : Nat) (d : PD), p.ds[i]? = some d → ∃ a fd, fA i = some a ∧ mg d.name = some (.ref a) ∧ FunD K d.name d.name (defArgs d.st) (defBody d.st) (defScope d.st) [] [] a fd ∧ Binds K fd d.ps []
  fa : ∀ (i : Nat) a, fA i = some a → i < p.ds.length
  gl : ∀ (i : Nat) x d, p.gs[i]? = some (x, d) → ∃ v u, mg x = some u ∧ RelV v u ∧ ∀ H Z η, Rep K fA H Z η v d
  bl : ∀ x ∈ p.bl, mg x = none
  cl : ∀ (n : Nat) x, p.cs[n]? = some x → ∃ a, eA n = some a ∧ mg x = some (.ref a) ∧ PySem.W.excIn K a He.veBase "ValueError.__new__" = true ∧ PySem.W.keepIn K (.ref a) = true ∧ PySem.W.subIn K (.ref a) (.type "BaseException") = some true ∧ PySem.W.typeIn K (.ref a) = some (.type "type")
  sub : ∀ n m a b, eA n = some a → eA m = some b → PySem.W.kitOne K (.ref a) (.ref b) = some (p.sub n m) ∧ PySem.W.exmOne K (.ref a) (.ref b) = some (p.sub n m)
  ec : ∀ n a, eA n = some a → ExcC K a
  eb : ∀ n a, eA n = some a → n < p.cs.length
section
variable {p : PT} {P : Program} {w : World} {K : PySem.W.Frag} {mg : Str → Option Value} {base : Heap} {fA eA : Nat → Option Addr}
theorem phi_len (p : PT) : ∀ (k i : Nat) (d : PD) (ds : List Py.D) (ω : Py.Store), p.ds[i]? = some d → ds.length ≠ d.fd.np → Py.phi p.prog k i ds ω = .stuck
  | 0, i, d, ds, ω, h, hl => rfl
  | k + 1, i, d, ds, ω, h, hl => by
    have h1 : p.prog.defs[i]? = some d.fd := by show (p.ds.map (·.fd))[i]? = _; rw [List.getElem?_map, h]; rfl
    unfold Py.phi
    simp only [h1, Py.runF, if_neg hl]
    rfl
theorem ps_len {d : PD} (h : d.fd.np ≤ d.N.length) : d.ps.length = d.fd.np := by
  unfold PD.ps
  rw [List.length_take]
  omega
theorem env_start {c : Ct} {d : PD} {vs : List V} {ds : List Py.D} {H : Hp} {Z : Addr → Prop} {η : List Addr} {ω : Py.Store} (hH : c.H0 = H) (hZ : c.Z0 = Z) (hη : c.η0 = η) (hn : d.fd.nn = d.N.length) (w : WInv c.X.K c.fA H Z η ω) (rl : RepL c.X.K c.fA H Z η vs ds) : c.Env (L2.start d.N vs) (d.fd.env ds) H Z η ω := by
  subst hH hZ hη
  have hl : vs.length = ds.length := rl.length
  have no : ∀ (i : Nat) s, (d.fd.env ds)[i]? = some s → s = .none ∨ ∃ x, ds[i]? = some x ∧ s = .v x := fun i s h => by
    unfold Py.Fd.env at h
    by_cases hi : i < (ds.map Py.Slot.v).length
    · rw [List.getElem?_append_left hi, List.getElem?_map] at h
      obtain ⟨x, h1, h2⟩ := Option.map_eq_some_iff.mp h
      exact .inr ⟨x, h1, h2.symm⟩
    · rw [List.getElem?_append_right (by omega), List.getElem?_replicate] at h
      split at h
      · cases h; exact .inl rfl
      · cases h
  refine ⟨w, .refl, ⟨?_, fun i d h => ?_, fun i es h => ?_, fun i j es fs q h _ _ _ => ?_, fun i n h => ?_⟩⟩
  · unfold Py.Fd.env L2.start
    simp only [List.length_append, List.length_map, List.length_replicate]
    omega
  · rcases no i _ h with e | ⟨x, h1, h2⟩
    · cases e
    · cases h2
      obtain ⟨v, h3, h4⟩ := rl.get h1
      refine ⟨v, ?_, h4⟩
      unfold L2.start
      rw [List.getElem?_append_left (by rw [List.length_map]; exact (List.getElem?_eq_some_iff.mp h3).1), List.getElem?_map, h3]
      rfl
  · rcases no i _ h with e | ⟨x, h1, h2⟩
    · cases e
    · cases h2
  · rcases no i _ h with e | ⟨x, h1, h2⟩
    · cases e
    · cases h2
  · rcases no i _ h with e | ⟨x, h1, h2⟩
    · cases e
    · cases h2
theorem all_ok (B : Base p K mg fA eA) (hok : ∀ d ∈ p.ds, d.ok p = true) : ∀ (k i : Nat) (d : PD) (a : Addr) (fd : FuncData), p.ds[i]? = some d → FunD K d.name d.name (defArgs d.st) (defBody d.st) (defScope d.st) [] [] a fd →
    FnOk P w K mg base (L2.CX P w) k a fd d.ps (spF K fA eA d.fd.np (Py.phi p.prog k i))
  | 0, i, d, a, fd, hd, F => ⟨fun vs H Q E h => by
      obtain ⟨_, Z, η, ω, ds, _, _, hm⟩ := h
      exact hm.elim, fun A outer s H args us vs Q E _ _ _ _ h => by
      obtain ⟨_, Z, η, ω, ds, _, _, hm⟩ := h
      exact hm.elim⟩
  | k + 1, i, d, a, fd, hd, F => by
    obtain ⟨o1, o⟩ := ba (hok d (List.mem_of_getElem? hd))
    obtain ⟨o2, o⟩ := ba o
    obtain ⟨o3, o4⟩ := ba o
    have o2 := of_decide_eq_true o2
    have o3 := of_decide_eq_true o3
    have S := scB_ok o1
    have hdef : p.prog.defs[i]? = some d.fd := by show (p.ds.map (·.fd))[i]? = _; rw [List.getElem?_map, hd]; rfl
    refine F.ok S (fun vs H Q E h => by rw [ps_len o2]; exact h.1) fun cdv A outer s H vs Q E hr h => ?_
    obtain ⟨hl, Z, η, ω, ds, wi, rl, hm⟩ := h
    let X : Cx := cxOf (L2.CX P w) P w K mg base d.N d.name (defScope d.st) a cdv A outer s H E
    let c : Ct := { X := X, fA := fA, eA := eA, W := fun cls dd _ H' => E cls dd H', H0 := H, Z0 := Z, η0 := η, xa := none }
    let L : Py.Lk := ⟨Py.phi p.prog k, p.g, p.sub⟩
    have fn : Fine c (p.tb d.N) L (scOf d.st) := {
      sc := rfl
      N := rfl
      nd := S.nd
      fn := rfl
      un := by have := hr.un; show (A.deeper _).units + 65 < cLine; omega
      po := passes_of (X := X) (K := fun e s'' => L2.CX P w outer H s E e s'') (E₁ := fun e' s'' => L2.CX P w outer H s E e' s'') rfl
      tk := takes_of (X := X) (E := E) (E₁ := fun e' s'' => L2.CX P w outer H s E e' s'') rfl rfl rfl rfl
      calm := fun _ => ⟨rfl, rfl⟩
      bl := B.bl
      df := fun j x n hj => by
        have hj : (p.ds.map fun d => (d.name, d.fd.np))[j]? = some (x, n) := hj
        rw [List.getElem?_map] at hj
        obtain ⟨d', h1, h2⟩ := Option.map_eq_some_iff.mp hj
        cases h2
        obtain ⟨a', fd', h3, h4, h5, h6⟩ := B.df j d' h1
        exact ⟨a', h3, h4, fun _ => ⟨⟨k, fd', d'.ps, all_ok B hok k j d' a' fd' h1 h5, hr, h6⟩, h5.kp⟩⟩
      fa := fun j a' hj => by
        have hlt := B.fa j a' hj
        obtain ⟨a2, fd', h3, h4, _⟩ := B.df j _ (List.getElem?_eq_getElem hlt)
        have h3' : fA j = some a2 := h3
        have hj' : fA j = some a' := hj
        rw [hj'] at h3'
        cases h3'
        refine ⟨_, p.ds[j].fd.np, ?_, h4⟩
        show (p.ds.map fun d => (d.name, d.fd.np))[j]? = _
        rw [List.getElem?_map, List.getElem?_eq_getElem hlt]
        rfl
      ln := fun j x n ds ω hj hne => by
        have hj : (p.ds.map fun d => (d.name, d.fd.np))[j]? = some (x, n) := hj
        rw [List.getElem?_map] at hj
        obtain ⟨d', h1, h2⟩ := Option.map_eq_some_iff.mp hj
        cases h2
        exact phi_len p k j d' ds ω h1 hne
      gl := fun j x hj => by
        have hj : (p.gs.map (·.1))[j]? = some x := hj
        rw [List.getElem?_map] at hj
        obtain ⟨⟨y, dd⟩, h1, h2⟩ := Option.map_eq_some_iff.mp hj
        subst h2
        obtain ⟨v, u, h3, h4, h5⟩ := B.gl j y dd h1
        have e : L.g j = dd := by show (p.gs.getD j default).2 = dd; rw [List.getD_eq_getElem?_getD, h1]; rfl
        exact ⟨v, u, h3, h4, fun H Z η => by rw [e]; exact h5 H Z η⟩
      cl := B.cl
      sub := B.sub
      ec := B.ec
      eb := B.eb
      top := fun _ => ⟨rfl, rfl⟩
      hot := fun j hj => by cases hj
      kind := S.kind
      sb := rfl
      th := fun _ => rfl }
    refine ⟨tS c (Py.evSs L d.fd.body), sSs d.fd.body fn o4, Z, η, ω, d.fd.env ds, env_start rfl rfl rfl o3 wi rl, ?_⟩
    unfold Py.phi at hm
    simp only [hdef, Py.runF] at hm
    have hl2 : ds.length = d.fd.np := by rw [← hl]; exact rl.length.symm
    rw [if_pos hl2] at hm
    unfold Py.outM at hm
    cases hr2 : Py.evSs L d.fd.body (d.fd.env ds) ω with
    | stuck => rw [show Py.evSs ⟨Py.phi p.prog k, p.prog.g, p.prog.sub⟩ d.fd.body (d.fd.env ds) ω = _ from hr2] at hm; exact hm.elim
    | nx r' ω' => rw [show Py.evSs ⟨Py.phi p.prog k, p.prog.g, p.prog.sub⟩ d.fd.body (d.fd.env ds) ω = _ from hr2] at hm; exact fun σ' H' Z' η' e _ => hm _ H' Z' η' e.s0 e.w .non
    | rt dd ω' => rw [show Py.evSs ⟨Py.phi p.prog k, p.prog.g, p.prog.sub⟩ d.fd.body (d.fd.env ds) ω = _ from hr2] at hm; exact fun v H' Z' η' st w r => hm v H' Z' η' st w r
    | ex x r' ω' => rw [show Py.evSs ⟨Py.phi p.prog k, p.prog.g, p.prog.sub⟩ d.fd.body (d.fd.env ds) ω = _ from hr2] at hm; exact fun σ' H' Z' η' b e _ hb => hm H' Z' η' b e.s0 e.w hb
/-- the law's def at the script -/
theorem law_sp {k i : Nat} {H : Hp} {a : Addr} {ns : List Int} {ω' : Py.Store} (hO : Only H) (hS : SqL K H a (ns.map V.int)) (h : Py.phi p.prog k i [.scr (ns.map .int)] [] = .ok (.bl true) ω') :
    spF K fA eA 1 (Py.phi p.prog k i) [.ref a] H (fun v _ => v = .bl true) (fun _ _ _ => False) := by
  have hr : ∀ {Z : Addr → Prop} {η : List Addr}, ∀ ms : List Int, RepL K fA H Z η (ms.map V.int) (ms.map Py.D.int) := fun {Z η} ms => by
    induction ms with
    | nil => exact .nil
    | cons m ms ih => exact .cons (.int m) ih
  have fin : ∀ {Z : Addr → Prop}, Rep K fA H Z [] (.ref a) (.scr (ns.map Py.D.int)) → (∀ b, Z b → H b ≠ none) → spF K fA eA 1 (Py.phi p.prog k i) [.ref a] H (fun v _ => v = .bl true) (fun _ _ _ => False) := fun {Z} rs hz => by
    refine ⟨rfl, Z, [], [], [.scr (ns.map .int)], ⟨fun _ _ h => by simp at h, hz, fun _ h => by simp at h, List.nodup_nil, rfl, fun n xs h => by simp at h, fun n c fs => by simp, fun n kvs => by simp⟩, .cons rs .nil, ?_⟩
    rw [h]
    intro v H' Z' η' _ _ r
    cases r
    rfl
  rcases hS with hS | hS
  · refine fin (Z := fun b => b = a) (.scr (.inl ⟨rfl, hS⟩) (hr ns)) fun b hb => ?_
    subst hb
    rcases hS with e | ⟨o, e⟩ <;> rw [e] <;> simp
  · exact fin (Z := fun _ => False) (.scr (.inr hS) (hr ns)) fun b hb => hb.elim
end
end PyS

end
section
namespace PyS
open PySem PySem.Spec PyProof.Rows L2
/-! ### what the head must see -/
def excB (K : PySem.W.Frag) (D : Addr) : Bool :=
  decide (PySem.W.findIn K (.ref D) "__getattribute__" = some (some (.builtin "BaseException.__getattribute__"))) && (decide (PySem.W.findIn K (.ref D) "__getattr__" = some none) && (decide (PySem.W.subIn K (.ref D) (.type "BaseException") = some true) &&
    (PySem.W.hasDictIn K D && (decide (PySem.W.findIn K (.ref D) "__class__" = some (some (.builtin "object.__class__"))) && (decide (PySem.W.specialIn K (.builtin "object.__class__") "__get__" = some (some (.builtin "getset_descriptor.__get__"))) &&
      (decide (PySem.W.takesIn K (.builtin "object.__class__") = some true) && decide (PySem.W.mroIn K D (.type "object") = some true)))))))
theorem excB_ok {K : PySem.W.Frag} {D : Addr} (h : excB K D = true) : ExcC K D := by
  obtain ⟨h1, h⟩ := ba h
  obtain ⟨h2, h⟩ := ba h
  obtain ⟨h3, h⟩ := ba h
  obtain ⟨h4, h⟩ := ba h
  obtain ⟨h5, h⟩ := ba h
  obtain ⟨h6, h⟩ := ba h
  obtain ⟨h7, h8⟩ := ba h
  exact ⟨of_decide_eq_true h1, of_decide_eq_true h2, of_decide_eq_true h3, h4, of_decide_eq_true h5, of_decide_eq_true h6, of_decide_eq_true h7, of_decide_eq_true h8⟩
def clB (K : PySem.W.Frag) (cs : List Str) (sub : Nat → Nat → Bool) : Bool :=
  cs.all (fun x => excB K (He.ga K x)) && cs.zipIdx.all fun x => cs.zipIdx.all fun y => decide (PySem.W.kitOne K (.ref (He.ga K x.1)) (.ref (He.ga K y.1)) = some (sub x.2 y.2)) && decide (PySem.W.exmOne K (.ref (He.ga K x.1)) (.ref (He.ga K y.1)) = some (sub x.2 y.2))
def cFa : Str × Py.D → He.Fa
  | (x, .int i) => .int x i
  | (x, .str cs) => .str x ⟨cs.toArray⟩
  | (x, _) => .glo x
def PT.fa (p : PT) : List He.Fa := p.ds.map (fun d => .glo d.name) ++ (p.bl.map .free ++ (p.gs.map cFa ++ (p.cs.map .glo ++ p.cs.map .exc)))
def PT.fn (p : PT) : List He.DefD := p.ds.map fun d => ⟨(d.name, none), d.name, d.name, defArgs d.st, defBody d.st, defScope d.st, [], []⟩
def PT.q (p : PT) (K : PySem.W.Frag) : Bool := clB K p.cs p.sub
def PT.saysX (p : PT) (K : PySem.W.Frag) : Prop := p.q K = true ∧ He.SaysD p.fa p.fn K
def PT.obs (p : PT) (n : Nat) (g : Addr → Option Obj) : Bool × He.AlD := (p.q (He.frG g (He.asD g n)), He.obsD p.fa p.fn (He.frG g (He.asD g n)))
def PT.hook (p : PT) (n : Nat) : PySem.W.Hook where
  α := Bool × He.AlD
  obs := fun s => p.obs n s.heap.get?
  val := fun _ => (true, He.valD p.fn)
  says := fun _ h => ∃ K : PySem.W.Frag, K.In h ∧ p.saysX K
  of := fun _ s e => ⟨He.frG s.heap.get? (He.asD s.heap.get? n), He.frG_in, congrArg Prod.fst e, congrArg Prod.snd e⟩
  keeps := fun _ _ _ ⟨K, hK, c⟩ k => ⟨K, PySem.W.Frag.In.keeps hK k, c⟩
theorem PT.obs_eq {p : PT} {n : Nat} {g : Addr → Option Obj} {s : Shared} (h : ∀ a, g a = s.heap.get? a) : p.obs n g = (p.hook n).obs s := by
  have e : g = s.heap.get? := funext h
  rw [e] <;> rfl
def BindOk (d : PD) : Prop := ∀ (kV doc pm : Value) (an : Option Addr) (cdv ct : Value) (us : List Value), us.length = d.ps.length → bindArgs (PySem.W.fnOf d.name d.name (defArgs d.st) (defBody d.st) (defScope d.st) .none kV doc pm an cdv ct) ⟨us, []⟩ = pure (d.ps.zip us)
def cOk : Str × Py.D → Bool
  | (_, .int _) => true
  | (_, .str cs) => cs.all fun c => decide (c < 1114112)
  | _ => false
def PT.fAof (p : PT) (K : PySem.W.Frag) (i : Nat) : Option Addr := p.ds[i]?.map fun d => He.ga K d.name
def PT.eAof (p : PT) (K : PySem.W.Frag) (i : Nat) : Option Addr := p.cs[i]?.map fun x => He.ga K x
theorem fact_in {fa : List He.Fa} {fn : List He.DefD} {K : PySem.W.Frag} (c : He.SaysD fa fn K) {f : He.Fa} (h : f ∈ fa) : f.ok K = true := by
  obtain ⟨i, hi⟩ := List.getElem?_of_mem h
  exact c.fact i hi
theorem base_of {p : PT} {K : PySem.W.Frag} {mg : Str → Option Value} {h : Heap} (X : K.In h) (G : h.Ns mainGlobals mg) (c : p.saysX K) (hb : ∀ d ∈ p.ds, BindOk d) (hg : ∀ g ∈ p.gs, cOk g = true) : Base p K mg (p.fAof K) (p.eAof K) := by
  obtain ⟨cq, cs⟩ := c
  obtain ⟨q1, q2⟩ := ba cq
  rw [List.all_eq_true] at q1 q2
  have eA : ∀ {n a}, p.eAof K n = some a → ∃ x, p.cs[n]? = some x ∧ a = He.ga K x := fun {n a} h => by
    obtain ⟨x, h1, h2⟩ := Option.map_eq_some_iff.mp h
    exact ⟨x, h1, h2.symm⟩
  have zi : ∀ {n : Nat} {x : Str}, p.cs[n]? = some x → (x, n) ∈ p.cs.zipIdx := fun {n x} h => by
    rw [List.mem_zipIdx_iff_getElem?]
    exact h
  refine ⟨fun i d hd => ?_, fun i a h => ?_, fun i x d hd => ?_, fun x hx => ?_, fun n x hx => ?_, fun n m a b ha hb => ?_, fun n a ha => ?_, fun n a ha => ?_⟩
  · have hm := List.mem_of_getElem? hd
    obtain ⟨fd, F⟩ := cs.def_ i (d := ⟨(d.name, none), d.name, d.name, defArgs d.st, defBody d.st, defScope d.st, [], []⟩) (by show (p.ds.map _)[i]? = _; rw [List.getElem?_map, hd]; rfl)
    exact ⟨He.ga K d.name, fd, by show p.ds[i]?.map _ = _; rw [hd]; rfl, He.glo_ok X G (fact_in cs (List.mem_append_left _ (List.mem_map.mpr ⟨d, hm, rfl⟩))), F, FunD.bindsN F (hb d hm)⟩
  · obtain ⟨x, h1, h2⟩ := Option.map_eq_some_iff.mp h
    exact (List.getElem?_eq_some_iff.mp h1).1
  · have hm := List.mem_of_getElem? hd
    have hf := fact_in cs (f := cFa (x, d)) (List.mem_append_right _ (List.mem_append_right _ (List.mem_append_left _ (List.mem_map.mpr ⟨_, hm, rfl⟩))))
    have ho := hg _ hm
    cases d <;> first | (cases ho; done) | skip
    · obtain ⟨t, e⟩ := He.int_ok X G hf
      exact ⟨.int _, _, e, ⟨t, rfl⟩, fun H Z η => .int _⟩
    · rename_i cs'
      obtain ⟨t, e⟩ := He.str_ok X G hf
      exact ⟨.str ⟨cs'.toArray⟩, _, e, ⟨t, rfl⟩, fun H Z η => .str _ ho⟩
  · exact He.free_ok X G (fact_in cs (List.mem_append_right _ (List.mem_append_left _ (List.mem_map.mpr ⟨x, hx, rfl⟩))))
  · have hm := List.mem_of_getElem? hx
    obtain ⟨k1, k2, k3, k4⟩ := He.exc_ok (fact_in cs (f := .exc x) (List.mem_append_right _ (List.mem_append_right _ (List.mem_append_right _ (List.mem_append_right _ (List.mem_map.mpr ⟨x, hm, rfl⟩))))))
    exact ⟨He.ga K x, by show p.cs[n]?.map _ = _; rw [hx]; rfl, He.glo_ok X G (fact_in cs (List.mem_append_right _ (List.mem_append_right _ (List.mem_append_right _ (List.mem_append_left _ (List.mem_map.mpr ⟨x, hm, rfl⟩)))))), k1, k2, k3, k4⟩
  · obtain ⟨x, h1, rfl⟩ := eA ha
    obtain ⟨y, h2, rfl⟩ := eA hb
    have z := q2 _ (zi h1)
    rw [List.all_eq_true] at z
    obtain ⟨z1, z2⟩ := ba (z _ (zi h2))
    exact ⟨of_decide_eq_true z1, of_decide_eq_true z2⟩
  · obtain ⟨x, h1, rfl⟩ := eA ha
    exact excB_ok (q1 x (List.mem_of_getElem? h1))
  · obtain ⟨x, h1, rfl⟩ := eA ha
    exact (List.getElem?_eq_some_iff.mp h1).1
def CXA (P : Program) : CXT := fun outer H s E u s' => ∃ w, L2.CX P w outer H s E u s'
theorem FnOk.wk {P : Program} {w : World} {K : PySem.W.Frag} {mg : Str → Option Value} {base : Heap} {CX CX' : CXT} {k : Nat} {f : Addr} {fd : FuncData} {ps : List Str} {sp : Sp} (F : FnOk P w K mg base CX k f fd ps sp) (h : ∀ outer H s E e s', CX outer H s E e s' → CX' outer H s E e s') :
    FnOk P w K mg base CX' k f fd ps sp := ⟨F.len, fun A outer s H args us vs Q E hr he hb hv hs => codeAny_mono (F.run A outer s H args us vs Q E hr he hb hv hs) fun r s' z => by
  cases r with
  | error e => exact h _ _ _ _ _ _ z
  | ok fl => cases fl <;> exact z⟩
theorem no_exc {P : Program} : ∀ (H : Hp) (s : Shared) (e : Value) (s' : Shared), CXA P [] H s (fun _ _ _ => False) e s' → False := fun H s e s' h => by
  obtain ⟨_, _, _, _, _, _, _, _, _, _, _, _, _, z⟩ := h
  exact z
/-- what is left to say of a law: that its text answers True -/
theorem walk_law {p : PT} {l : PySem.W.OpenLaw} {n k i : Nat} {d : DefRec} {dl : PD} {x : Str} {m : Nat} (hn : l.most = some n) (hn2 : n ≤ sizeLine) (hdf : d.params.defaults = []) (hr : Room k callerA)
    (hd : p.ds[i]? = some dl) (hnm : d.name = dl.name) (hps : dl.ps = [x]) (hnp : dl.fd.np = 1) (hb : ∀ d ∈ p.ds, BindOk d) (hg : ∀ g ∈ p.gs, cOk g = true) (hok : ∀ d ∈ p.ds, d.ok p = true)
    (hw : ∀ ns : List Int, ns.length ≤ n → ∃ ω', Py.phi p.prog k i [.scr (ns.map .int)] [] = .ok (.bl true) ω') :
    ∀ (w : World) (mg : Str → Option Value) (fa : Addr) (h : Heap), (p.hook m).says w h → h.Ns mainGlobals mg → mg d.name = some (.ref fa) →
      ∃ (K : PySem.W.Frag) (fd : FuncData) (sp : Sp), K.In h ∧ (∀ (s : Shared) (u : Value), BindsTo s fd ⟨[u], []⟩ [(x, u)]) ∧
        (∀ (H : Hp) (a : Addr) (ns : List Int), ns.length ≤ n → Only H → SqL K H a (ns.map V.int) → sp [.ref a] H (fun v _ => v = .bl true) fun _ _ _ => False) ∧
        ∀ base : Heap, K.In base → base.Ns mainGlobals mg → FnOk l.prog w K mg base (CXA l.prog) k fa fd [x] sp := by
  intro w mg fa h Y G hmg
  obtain ⟨K, KX, c⟩ := Y
  have B := base_of KX G c hb hg
  obtain ⟨a, fd, h1, h2, F, Bd⟩ := B.df i dl hd
  rw [hnm] at hmg
  have e := hmg.symm.trans h2
  cases e
  refine ⟨K, fd, spF K (p.fAof K) (p.eAof K) 1 (Py.phi p.prog k i), KX, fun s u => ?_, fun H a ns hl hO hS => ?_, fun base hK hG => ?_⟩
  · have z := FunD.bindsA (ps := dl.ps) F (hb dl (List.mem_of_getElem? hd)) s [u] (by rw [hps]; rfl)
    rw [hps] at z
    exact z
  · obtain ⟨ω', h⟩ := hw ns hl
    exact law_sp hO hS h
  · have z := all_ok (P := l.prog) (w := w) (base := base) B hok k i dl fa fd hd F
    rw [hps, hnp] at z
    exact FnOk.wk z fun _ _ _ _ _ _ h => ⟨w, h⟩
end PyS

end
section
set_option maxHeartbeats 0
namespace Lw
open PySem PySem.Spec PyProof.Rows L2 PyS
def top (i : Nat) : Stmt := PySem.Challenge.pw_timevote_k52_exchanges.main.body.getD i (.Pass ⟨0, 0, 0, 0⟩)
def b_is_integer : Py.Ss := (.cons (.retE (.and (.isi (.var 0) .int) (.not (.isi (.var 0) .bool))))
    .nil)
def f_is_integer : Py.Fd := ⟨1, 1, b_is_integer⟩
def d_is_integer : PD := ⟨"is_integer", ["value"], top 12, f_is_integer⟩
def b_is_time : Py.Ss := (.cons (.retE (.and (.call 0 (.cons (.var 0) .nil)) (.cmp2 .le .le (.cst (.int 0)) (.var 0) (.glb 0))))
    .nil)
def f_is_time : Py.Fd := ⟨1, 1, b_is_time⟩
def d_is_time : PD := ⟨"is_time", ["value"], top 13, f_is_time⟩
def b_is_name : Py.Ss := (.cons (.retE (.and (.isi (.var 0) .str) (.and (.cmp2 .le .le (.cst (.int 1)) (.blt .len (.cons (.var 0) .nil)) (.glb 1)) (.blt .all (.cons (.cmp0 (.nm 1) (.seq (.var 0)) (.cmp .inn (.var 1) (.glb 2))) .nil)))))
    .nil)
def f_is_name : Py.Fd := ⟨1, 2, b_is_name⟩
def d_is_name : PD := ⟨"is_name", ["value", "sign"], top 14, f_is_name⟩
def b_is_exchange : Py.Ss := (.cons (.ifs (.or (.not (.isi (.var 0) .tuple)) (.or (.cmp .ne (.blt .len (.cons (.var 0) .nil)) (.cst (.int 4))) (.not (.blt .all (.cons (.cmp0 (.nm 5) (.seq (.var 0)) (.call 1 (.cons (.var 5) .nil))) .nil))))) (.cons (.retE (.cst (.bl false)))
    .nil) .nil)
    (.cons (.unp [1, 2, 3, 4] (.var 0))
    (.cons (.retE (.and (.cmp .le (.var 1) (.var 4)) (.and (.cmp .le (.var 2) (.var 3)) (.cmp .le (.bin .sub (.var 3) (.var 2)) (.bin .sub (.var 4) (.var 1))))))
    .nil)))
def f_is_exchange : Py.Fd := ⟨1, 6, b_is_exchange⟩
def d_is_exchange : PD := ⟨"is_exchange", ["value", "sent", "received", "answered", "returned", "time"], top 17, f_is_exchange⟩
def b_check_exchange : Py.Ss := (.cons (.ifs (.not (.call 3 (.cons (.var 0) .nil))) (.cons (.rse 3)
    .nil) .nil)
    .nil)
def f_check_exchange : Py.Fd := ⟨1, 1, b_check_exchange⟩
def d_check_exchange : PD := ⟨"check_exchange", ["value"], top 18, f_check_exchange⟩
def b_find_delay : Py.Ss := (.cons (.unp [1, 2, 3, 4] (.var 0))
    (.cons (.retE (.bin .sub (.bin .sub (.var 4) (.var 1)) (.bin .sub (.var 3) (.var 2))))
    .nil))
def f_find_delay : Py.Fd := ⟨1, 5, b_find_delay⟩
def d_find_delay : PD := ⟨"find_delay", ["exchange", "sent", "received", "answered", "returned"], top 19, f_find_delay⟩
def b_find_offsets : Py.Ss := (.cons (.unp [1, 2, 3, 4] (.var 0))
    (.cons (.retE (.tup (.cons (.bin .sub (.var 3) (.var 4)) (.cons (.bin .sub (.var 2) (.var 1)) .nil))))
    .nil))
def f_find_offsets : Py.Fd := ⟨1, 5, b_find_offsets⟩
def d_find_offsets : PD := ⟨"find_offsets", ["exchange", "sent", "received", "answered", "returned"], top 20, f_find_offsets⟩
def b_delay : Py.Ss := (.cons (.exp (.call 4 (.cons (.var 0) .nil)))
    (.cons (.retE (.call 5 (.cons (.var 0) .nil)))
    .nil))
def f_delay : Py.Fd := ⟨1, 1, b_delay⟩
def d_delay : PD := ⟨"delay", ["exchange"], top 21, f_delay⟩
def b_offsets : Py.Ss := (.cons (.exp (.call 4 (.cons (.var 0) .nil)))
    (.cons (.retE (.call 6 (.cons (.var 0) .nil)))
    .nil))
def f_offsets : Py.Fd := ⟨1, 1, b_offsets⟩
def d_offsets : PD := ⟨"offsets", ["exchange"], top 22, f_offsets⟩
def b_check_delays : Py.Ss := (.cons (.ifs (.or (.not (.call 1 (.cons (.var 0) .nil))) (.not (.call 1 (.cons (.var 1) .nil)))) (.cons (.rse 5)
    .nil) .nil)
    .nil)
def f_check_delays : Py.Fd := ⟨2, 2, b_check_delays⟩
def d_check_delays : PD := ⟨"check_delays", ["there", "back"], top 23, f_check_delays⟩
def b_offsets_with : Py.Ss := (.cons (.exp (.call 4 (.cons (.var 0) .nil)))
    (.cons (.exp (.call 9 (.cons (.var 1) (.cons (.var 2) .nil))))
    (.cons (.ifs (.cmp .gt (.bin .add (.var 1) (.var 2)) (.call 5 (.cons (.var 0) .nil))) (.cons (.rse 5)
    .nil) .nil)
    (.cons (.unp [3, 4] (.call 6 (.cons (.var 0) .nil)))
    (.cons (.retE (.tup (.cons (.bin .add (.var 3) (.var 2)) (.cons (.bin .sub (.var 4) (.var 1)) .nil))))
    .nil)))))
def f_offsets_with : Py.Fd := ⟨3, 5, b_offsets_with⟩
def d_offsets_with : PD := ⟨"offsets_with", ["exchange", "there", "back", "least", "greatest"], top 24, f_offsets_with⟩
def b_common_offsets : Py.Ss := (.cons (.ifs (.or (.not (.isi (.var 0) .list)) (.not (.cmp2 .le .le (.cst (.int 1)) (.blt .len (.cons (.var 0) .nil)) (.glb 3)))) (.cons (.rse 4)
    .nil) .nil)
    (.cons (.ifs (.not (.blt .all (.cons (.cmp0 (.nm 4) (.seq (.var 0)) (.call 3 (.cons (.var 4) .nil))) .nil))) (.cons (.rse 4)
    .nil) .nil)
    (.cons (.asg 1 (.cmp0 (.nm 4) (.seq (.var 0)) (.call 6 (.cons (.var 4) .nil))))
    (.cons (.par [(false, 2), (false, 3)] (.cons (.blt .max1I (.cons (.cmp0 (.tp [5, 6]) (.seq (.var 1)) (.var 5)) .nil)) (.cons (.blt .min1I (.cons (.cmp0 (.tp [5, 6]) (.seq (.var 1)) (.var 6)) .nil)) .nil)))
    (.cons (.retE (.ite (.cmp .le (.var 2) (.var 3)) (.tup (.cons (.var 2) (.cons (.var 3) .nil))) (.cst .non)))
    .nil)))))
def f_common_offsets : Py.Fd := ⟨1, 7, b_common_offsets⟩
def d_common_offsets : PD := ⟨"common_offsets", ["exchanges", "found", "least", "greatest", "exchange", "one", "other"], top 25, f_common_offsets⟩
def b_delayed : Py.Ss := (.cons (.exp (.call 4 (.cons (.var 0) .nil)))
    (.cons (.exp (.call 9 (.cons (.var 1) (.cons (.var 2) .nil))))
    (.cons (.unp [3, 4, 5, 6] (.var 0))
    (.cons (.ifs (.or (.cmp .gt (.bin .add (.var 5) (.var 1)) (.glb 0)) (.cmp .gt (.bin .add (.bin .add (.var 6) (.var 1)) (.var 2)) (.glb 0))) (.cons (.rse 2)
    .nil) .nil)
    (.cons (.retE (.tup (.cons (.var 3) (.cons (.bin .add (.var 4) (.var 1)) (.cons (.bin .add (.var 5) (.var 1)) (.cons (.bin .add (.bin .add (.var 6) (.var 1)) (.var 2)) .nil))))))
    .nil)))))
def f_delayed : Py.Fd := ⟨3, 7, b_delayed⟩
def d_delayed : PD := ⟨"delayed", ["exchange", "there", "back", "sent", "received", "answered", "returned"], top 26, f_delayed⟩
def b_report_of : Py.Ss := (.cons (.ifs (.not (.call 2 (.cons (.var 0) .nil))) (.cons (.rse 6)
    .nil) .nil)
    (.cons (.exp (.call 4 (.cons (.var 1) .nil)))
    (.cons (.ifs (.or (.not (.call 1 (.cons (.var 2) .nil))) (.cmp .lt (.var 2) (.sub (.var 1) (.cst (.int 3))))) (.cons (.rse 1)
    .nil) .nil)
    (.cons (.unp [3, 4] (.call 6 (.cons (.var 1) .nil)))
    (.cons (.ifs (.or (.not (.call 1 (.cons (.bin .add (.var 2) (.var 3)) .nil))) (.not (.call 1 (.cons (.bin .add (.var 2) (.var 4)) .nil)))) (.cons (.rse 2)
    .nil) .nil)
    (.cons (.retE (.tup (.cons (.var 0) (.cons (.bin .add (.var 2) (.var 3)) (.cons (.bin .add (.var 2) (.var 4)) .nil)))))
    .nil))))))
def f_report_of : Py.Fd := ⟨3, 5, b_report_of⟩
def d_report_of : PD := ⟨"report_of", ["name", "exchange", "now", "least", "greatest"], top 27, f_report_of⟩
def b__law_drawn : Py.Ss := (.cons (.asg 3 (.bin .mul (.cst (.int 7)) (.var 1)))
    (.cons (.ifs (.cmp .ne (.var 0) (.lst .nil)) (.cons (.asg 3 (.sub (.var 0) (.bin .mod (.var 1) (.blt .len (.cons (.var 0) .nil)))))
    (.cons (.asg 4 (.bin .fdiv (.var 1) (.blt .len (.cons (.var 0) .nil))))
    (.cons (.ifs (.and (.cmp .ge (.var 3) (.bin .pow (.cst (.int 10)) (.cst (.int 18)))) (.cmp .lt (.var 4) (.cst (.int 60)))) (.cons (.asg 5 (.bin .fdiv (.var 3) (.bin .pow (.cst (.int 10)) (.cst (.int 18)))))
    (.cons (.whl 100000 (.and (.cmp .gt (.var 5) (.cst (.int 0))) (.cmp .gt (.var 4) (.cst (.int 0)))) (.cons (.asg 5 (.bin .fdiv (.var 5) (.cst (.int 1000000))))
    (.cons (.asg 4 (.bin .sub (.var 4) (.cst (.int 1))))
    .nil)))
    (.cons (.ifs (.cmp .gt (.var 5) (.cst (.int 0))) (.cons (.retE (.bin .mod (.bin .mod (.var 5) (.cst (.int 1000000))) (.var 2)))
    .nil) .nil)
    .nil))) .nil)
    (.cons (.asg 3 (.bin .add (.var 3) (.bin .mul (.cst (.int 6553)) (.bin .fdiv (.var 1) (.blt .len (.cons (.var 0) .nil))))))
    .nil)))) .nil)
    (.cons (.asg 3 (.bin .mod (.bin .add (.bin .mul (.bin .mod (.var 3) (.cst (.int 2147483563))) (.cst (.int 69069))) (.bin .mul (.cst (.int 104723)) (.bin .add (.var 1) (.cst (.int 1))))) (.cst (.int 2147483563))))
    (.cons (.asg 3 (.bin .mod (.bin .add (.bin .mul (.var 3) (.var 3)) (.bin .fdiv (.var 3) (.cst (.int 3)))) (.cst (.int 2147483399))))
    (.cons (.retE (.bin .mod (.bin .fdiv (.bin .mod (.bin .add (.bin .mul (.var 3) (.var 3)) (.bin .fdiv (.var 3) (.cst (.int 7)))) (.cst (.int 2147483647))) (.cst (.int 11))) (.var 2)))
    .nil)))))
def f__law_drawn : Py.Fd := ⟨3, 6, b__law_drawn⟩
def d__law_drawn : PD := ⟨"_law_drawn", ["_law_script", "_law_k", "_law_many", "_law_cell", "_law_turn", "_law_rest"], top 29, f__law_drawn⟩
def b__law_exchange : Py.Ss := (.cons (.par [(false, 3), (false, 4), (false, 5)] (.cons (.call 14 (.cons (.var 0) (.cons (.var 1) (.cons (.cst (.int 200)) .nil)))) (.cons (.call 14 (.cons (.var 0) (.cons (.bin .add (.var 1) (.cst (.int 1))) (.cons (.cst (.int 30)) .nil)))) (.cons (.call 14 (.cons (.var 0) (.cons (.bin .add (.var 1) (.cst (.int 2))) (.cons (.cst (.int 30)) .nil)))) .nil))))
    (.cons (.par [(false, 6), (false, 7)] (.cons (.bin .add (.cst (.int 40)) (.call 14 (.cons (.var 0) (.cons (.bin .add (.var 1) (.cst (.int 3))) (.cons (.cst (.int 300)) .nil))))) (.cons (.call 14 (.cons (.var 0) (.cons (.bin .add (.var 1) (.cst (.int 4))) (.cons (.cst (.int 20)) .nil)))) .nil)))
    (.cons (.asg 2 (.bin .add (.bin .add (.var 3) (.var 4)) (.var 6)))
    (.cons (.retE (.tup (.cons (.var 3) (.cons (.var 2) (.cons (.bin .add (.var 2) (.var 7)) (.cons (.bin .add (.bin .add (.bin .add (.var 3) (.var 4)) (.var 7)) (.var 5)) .nil))))))
    .nil))))
def f__law_exchange : Py.Fd := ⟨2, 8, b__law_exchange⟩
def d__law_exchange : PD := ⟨"_law_exchange", ["_law_script", "_law_at", "_law_received", "_law_sent", "_law_there", "_law_back", "_law_offset", "_law_rest"], top 30, f__law_exchange⟩
def b__law_error : Py.Ss := (.cons (.trx (.cons (.ifs (.cmp .lt (.var 0) (.cst (.int 2))) (.cons (.exp (.calv (.sub (.lst (.cons (.fnv 7) (.cons (.fnv 8) .nil))) (.var 0)) (.cons (.var 1) .nil)))
    .nil) (.cons (.ifs (.cmp .lt (.var 0) (.cst (.int 4))) (.cons (.exp (.calv (.sub (.lst (.cons (.fnv 10) (.cons (.fnv 12) .nil))) (.bin .sub (.var 0) (.cst (.int 2)))) (.cons (.var 1) (.cons (.var 2) (.cons (.var 3) .nil)))))
    .nil) (.cons (.ifs (.cmp .eq (.var 0) (.cst (.int 4))) (.cons (.exp (.call 11 (.cons (.var 1) .nil)))
    .nil) (.cons (.exp (.call 13 (.cons (.var 1) (.cons (.var 2) (.cons (.var 3) .nil)))))
    .nil))
    .nil))
    .nil))
    .nil) (some 4) (.cons (.asg 5 (.lst (.cons (.ise 4 3) (.cons (.ise 4 5) .nil))))
    (.cons (.asg 5 (.bin .add (.var 5) (.lst (.cons (.ise 4 4) .nil))))
    (.cons (.asg 5 (.bin .add (.var 5) (.lst (.cons (.ise 4 6) (.cons (.ise 4 1) .nil)))))
    (.cons (.asg 5 (.bin .add (.var 5) (.lst (.cons (.ise 4 2) .nil))))
    (.cons (.retE (.idx (.var 5) (.cst (.bl true))))
    .nil))))))
    (.cons (.retE (.cst .non))
    .nil))
def f__law_error : Py.Fd := ⟨4, 6, b__law_error⟩
def d__law_error : PD := ⟨"_law_error", ["_law_way", "_law_one", "_law_two", "_law_three", "e", "_law_flags"], top 31, f__law_error⟩
def b__law_offsets : Py.Ss := (.cons (.unp [6, 7, 8, 9] (.var 0))
    (.cons (.asg 3 (.bin .sub (.bin .sub (.var 9) (.var 6)) (.bin .sub (.var 8) (.var 7))))
    (.cons (.own 4 (.lst .nil))
    (.cons (.fo (.nm 5) (.rng2 (.var 1) (.bin .add (.bin .sub (.var 3) (.var 2)) (.cst (.int 1)))) (.cons (.app 4 (.bin .sub (.bin .sub (.var 7) (.var 6)) (.var 5)))
    .nil))
    (.cons (.retE (.blt .sortedI (.cons (.peek 4) .nil)))
    .nil)))))
def f__law_offsets : Py.Fd := ⟨3, 10, b__law_offsets⟩
def d__law_offsets : PD := ⟨"_law_offsets", ["_law_exchange_here", "_law_there", "_law_back", "_law_both", "_law_found", "_law_k", "_law_sent", "_law_received", "_law_answered", "_law_returned"], top 32, f__law_offsets⟩
def b__law_rejected : Py.Ss := (.cons (.asg 2 (.lst (.cons (.cst .non) (.cons (.tup .nil) (.cons (.slH (.var 1) (.cst (.int 3))) (.cons (.blt .list (.cons (.var 1) .nil)) (.cons (.tup (.cons (.sub (.var 1) (.cst (.int 0))) (.cons (.sub (.var 1) (.cst (.int 1))) (.cons (.bin .sub (.sub (.var 1) (.cst (.int 1))) (.cst (.int 1))) (.cons (.sub (.var 1) (.cst (.int 3))) .nil))))) .nil)))))))
    (.cons (.asg 2 (.bin .add (.var 2) (.lst (.cons (.bin .add (.tup (.cons (.bin .add (.sub (.var 1) (.cst (.int 3))) (.cst (.int 1))) .nil)) (.slL (.var 1) (.cst (.int 1)))) (.cons (.bin .add (.tup (.cons (.cst (.bl true)) .nil)) (.slL (.var 1) (.cst (.int 1)))) .nil)))))
    (.cons (.asg 2 (.sub (.bin .add (.var 2) (.lst (.cons (.bin .add (.bin .add (.slH (.var 1) (.cst (.int 2))) (.tup (.cons (.bin .add (.sub (.var 1) (.cst (.int 2))) (.cst (.int 99))) .nil))) (.slL (.var 1) (.cst (.int 3)))) (.cons (.bin .add (.tup (.cons (.cst (.int 10000)) .nil)) (.slL (.var 1) (.cst (.int 1)))) .nil)))) (.call 14 (.cons (.var 0) (.cons (.cst (.int 50)) (.cons (.cst (.int 9)) .nil))))))
    (.cons (.asg 3 (.sub (.lst (.cons (.neg (.cst (.int 1))) (.cons (.cst (.int 10000)) (.cons (.cst .non) (.cons (.cst (.bl true)) (.cons (.cst (.str [49])) .nil)))))) (.call 14 (.cons (.var 0) (.cons (.cst (.int 51)) (.cons (.cst (.int 5)) .nil))))))
    (.cons (.asg 4 (.lst (.cons (.call 16 (.cons (.cst (.int 0)) (.cons (.var 2) (.cons (.cst (.int 0)) (.cons (.cst (.int 0)) .nil))))) (.cons (.call 16 (.cons (.cst (.int 1)) (.cons (.var 2) (.cons (.cst (.int 0)) (.cons (.cst (.int 0)) .nil))))) (.cons (.call 16 (.cons (.cst (.int 2)) (.cons (.var 2) (.cons (.var 3) (.cons (.var 3) .nil))))) .nil)))))
    (.cons (.asg 4 (.bin .add (.var 4) (.lst (.cons (.call 16 (.cons (.cst (.int 3)) (.cons (.var 2) (.cons (.var 3) (.cons (.var 3) .nil))))) .nil))))
    (.cons (.asg 4 (.bin .add (.var 4) (.lst (.cons (.call 16 (.cons (.cst (.int 2)) (.cons (.var 1) (.cons (.var 3) (.cons (.cst (.int 0)) .nil))))) (.cons (.call 16 (.cons (.cst (.int 2)) (.cons (.var 1) (.cons (.cst (.int 0)) (.cons (.var 3) .nil))))) (.cons (.call 16 (.cons (.cst (.int 3)) (.cons (.var 1) (.cons (.var 3) (.cons (.cst (.int 0)) .nil))))) .nil))))))
    (.cons (.asg 4 (.bin .add (.var 4) (.lst (.cons (.call 16 (.cons (.cst (.int 3)) (.cons (.var 1) (.cons (.cst (.int 0)) (.cons (.var 3) .nil))))) .nil))))
    (.cons (.asg 4 (.bin .add (.var 4) (.lst (.cons (.call 16 (.cons (.cst (.int 2)) (.cons (.var 1) (.cons (.cst (.int 0)) (.cons (.cst (.int 61)) .nil))))) (.cons (.call 16 (.cons (.cst (.int 3)) (.cons (.var 1) (.cons (.cst (.int 9990)) (.cons (.cst (.int 0)) .nil))))) .nil)))))
    (.cons (.asg 4 (.bin .add (.var 4) (.lst (.cons (.call 16 (.cons (.cst (.int 3)) (.cons (.var 1) (.cons (.cst (.int 1)) (.cons (.cst (.int 9999)) .nil))))) .nil))))
    (.cons (.ifs (.cmp .ne (.var 4) (.lst (.cons (.cst (.int 0)) (.cons (.cst (.int 0)) (.cons (.cst (.int 0)) (.cons (.cst (.int 0)) (.cons (.cst (.int 1)) (.cons (.cst (.int 1)) (.cons (.cst (.int 1)) (.cons (.cst (.int 1)) (.cons (.cst (.int 1)) (.cons (.cst (.int 5)) (.cons (.cst (.int 5)) .nil))))))))))))) (.cons (.retE (.cst (.bl false)))
    .nil) .nil)
    (.cons (.asg 5 (.sub (.lst (.cons (.cst .non) (.cons (.lst .nil) (.cons (.tup (.cons (.var 1) .nil)) (.cons (.bin .mul (.lst (.cons (.var 1) .nil)) (.cst (.int 11))) (.cons (.lst (.cons (.var 1) (.cons (.cst .non) .nil))) (.cons (.lst (.cons (.var 1) (.cons (.var 2) .nil))) .nil))))))) (.call 14 (.cons (.var 0) (.cons (.cst (.int 52)) (.cons (.cst (.int 6)) .nil))))))
    (.cons (.ifs (.or (.cmp .ne (.call 16 (.cons (.cst (.int 4)) (.cons (.var 5) (.cons (.cst (.int 0)) (.cons (.cst (.int 0)) .nil))))) (.cst (.int 2))) (.isC true (.call 16 (.cons (.cst (.int 4)) (.cons (.bin .mul (.lst (.cons (.var 1) .nil)) (.cst (.int 10))) (.cons (.cst (.int 0)) (.cons (.cst (.int 0)) .nil))))) .non)) (.cons (.retE (.cst (.bl false)))
    .nil) .nil)
    (.cons (.asg 6 (.sub (.lst (.cons (.cst .non) (.cons (.cst (.str [])) (.cons (.cst (.str [65])) (.cons (.cst (.str [97, 98, 99, 100])) (.cons (.cst (.int 7)) (.cons (.tup (.cons (.cst (.str [97])) .nil)) .nil))))))) (.call 14 (.cons (.var 0) (.cons (.cst (.int 53)) (.cons (.cst (.int 6)) .nil))))))
    (.cons (.asg 4 (.lst (.cons (.call 16 (.cons (.cst (.int 5)) (.cons (.var 6) (.cons (.var 2) (.cons (.var 3) .nil))))) (.cons (.call 16 (.cons (.cst (.int 5)) (.cons (.cst (.str [97])) (.cons (.var 2) (.cons (.var 3) .nil))))) .nil))))
    (.cons (.asg 4 (.bin .add (.var 4) (.lst (.cons (.call 16 (.cons (.cst (.int 5)) (.cons (.cst (.str [97])) (.cons (.var 1) (.cons (.var 3) .nil))))) .nil))))
    (.cons (.asg 4 (.bin .add (.var 4) (.lst (.cons (.call 16 (.cons (.cst (.int 5)) (.cons (.cst (.str [97])) (.cons (.var 1) (.cons (.bin .sub (.sub (.var 1) (.cst (.int 3))) (.cst (.int 1))) .nil))))) (.cons (.call 16 (.cons (.cst (.int 5)) (.cons (.cst (.str [97])) (.cons (.var 1) (.cons (.cst (.int 9999)) .nil))))) .nil)))))
    (.cons (.asg 4 (.bin .add (.var 4) (.lst (.cons (.call 16 (.cons (.cst (.int 5)) (.cons (.cst (.str [97])) (.cons (.tup (.cons (.cst (.int 50)) (.cons (.cst (.int 0)) (.cons (.cst (.int 0)) (.cons (.cst (.int 60)) .nil))))) (.cons (.cst (.int 60)) .nil))))) .nil))))
    (.cons (.retE (.cmp .eq (.var 4) (.lst (.cons (.cst (.int 3)) (.cons (.cst (.int 0)) (.cons (.cst (.int 4)) (.cons (.cst (.int 4)) (.cons (.cst (.int 5)) (.cons (.cst .non) .nil)))))))))
    .nil)))))))))))))))))))
def f__law_rejected : Py.Fd := ⟨2, 7, b__law_rejected⟩
def d__law_rejected : PD := ⟨"_law_rejected", ["_law_script", "_law_one", "_law_odd", "_law_bad", "_law_told", "_law_lists", "_law_name"], top 33, f__law_rejected⟩
def b_law : Py.Ss := (.cons (.par [(false, 9), (false, 10)] (.cons (.call 15 (.cons (.var 0) (.cons (.cst (.int 1)) .nil))) (.cons (.call 15 (.cons (.var 0) (.cons (.cst (.int 11)) .nil))) .nil)))
    (.cons (.asg 1 (.bin .sub (.bin .sub (.sub (.var 9) (.cst (.int 3))) (.sub (.var 9) (.cst (.int 0)))) (.bin .sub (.sub (.var 9) (.cst (.int 2))) (.sub (.var 9) (.cst (.int 1))))))
    (.cons (.asg 2 (.call 17 (.cons (.var 9) (.cons (.cst (.int 0)) (.cons (.cst (.int 0)) .nil)))))
    (.cons (.ifs (.or (.cmp .ne (.call 7 (.cons (.var 9) .nil)) (.var 1)) (.or (.cmp .ne (.call 8 (.cons (.var 9) .nil)) (.tup (.cons (.sub (.var 2) (.cst (.int 0))) (.cons (.sub (.var 2) (.neg (.cst (.int 1)))) .nil)))) (.cmp .ne (.blt .len (.cons (.var 2) .nil)) (.bin .add (.var 1) (.cst (.int 1)))))) (.cons (.retE (.cst (.bl false)))
    .nil) .nil)
    (.cons (.asg 3 (.call 14 (.cons (.var 0) (.cons (.cst (.int 21)) (.cons (.bin .add (.var 1) (.cst (.int 2))) .nil)))))
    (.cons (.asg 4 (.call 14 (.cons (.var 0) (.cons (.cst (.int 22)) (.cons (.bin .add (.var 1) (.cst (.int 2))) .nil)))))
    (.cons (.asg 2 (.call 17 (.cons (.var 9) (.cons (.var 3) (.cons (.var 4) .nil)))))
    (.cons (.ifs (.cmp .eq (.var 2) (.lst .nil)) (.cons (.ifs (.cmp .ne (.call 16 (.cons (.cst (.int 2)) (.cons (.var 9) (.cons (.var 3) (.cons (.var 4) .nil))))) (.cst (.int 1))) (.cons (.retE (.cst (.bl false)))
    .nil) .nil)
    .nil) (.cons (.ifs (.cmp .ne (.call 10 (.cons (.var 9) (.cons (.var 3) (.cons (.var 4) .nil)))) (.tup (.cons (.sub (.var 2) (.cst (.int 0))) (.cons (.sub (.var 2) (.neg (.cst (.int 1)))) .nil)))) (.cons (.retE (.cst (.bl false)))
    .nil) .nil)
    .nil))
    (.cons (.asg 5 (.slH (.lst (.cons (.var 9) (.cons (.var 10) (.cons (.call 15 (.cons (.var 0) (.cons (.cst (.int 31)) .nil))) .nil)))) (.bin .add (.cst (.int 1)) (.call 14 (.cons (.var 0) (.cons (.cst (.int 23)) (.cons (.cst (.int 3)) .nil)))))))
    (.cons (.asg 2 (.call 17 (.cons (.var 9) (.cons (.cst (.int 0)) (.cons (.cst (.int 0)) .nil)))))
    (.cons (.fo (.nm 6) (.seq (.var 5)) (.cons (.asg 2 (.cmpi (.nm 11) (.seq (.var 2)) (.cmp .inn (.var 11) (.call 17 (.cons (.var 6) (.cons (.cst (.int 0)) (.cons (.cst (.int 0)) .nil))))) (.var 11)))
    .nil))
    (.cons (.ifs (.cmp .ne (.call 11 (.cons (.var 5) .nil)) (.ite (.cmp .eq (.var 2) (.lst .nil)) (.cst .non) (.tup (.cons (.sub (.var 2) (.cst (.int 0))) (.cons (.sub (.var 2) (.neg (.cst (.int 1)))) .nil))))) (.cons (.retE (.cst (.bl false)))
    .nil) .nil)
    (.cons (.asg 7 (.tup (.cons (.sub (.var 9) (.cst (.int 0))) (.cons (.bin .add (.sub (.var 9) (.cst (.int 1))) (.var 3)) (.cons (.bin .add (.sub (.var 9) (.cst (.int 2))) (.var 3)) (.cons (.bin .add (.bin .add (.sub (.var 9) (.cst (.int 3))) (.var 3)) (.var 4)) .nil))))))
    (.cons (.ifs (.cmp .ne (.call 12 (.cons (.var 9) (.cons (.var 3) (.cons (.var 4) .nil)))) (.var 7)) (.cons (.retE (.cst (.bl false)))
    .nil) .nil)
    (.cons (.ifs (.cmp .ne (.call 8 (.cons (.var 7) .nil)) (.tup (.cons (.bin .sub (.sub (.call 8 (.cons (.var 9) .nil)) (.cst (.int 0))) (.var 4)) (.cons (.bin .add (.sub (.call 8 (.cons (.var 9) .nil)) (.cst (.int 1))) (.var 3)) .nil)))) (.cons (.retE (.cst (.bl false)))
    .nil) .nil)
    (.cons (.asg 8 (.bin .add (.sub (.var 9) (.cst (.int 3))) (.call 14 (.cons (.var 0) (.cons (.cst (.int 24)) (.cons (.cst (.int 50)) .nil))))))
    (.cons (.ifs (.cmp .ne (.call 13 (.cons (.cst (.str [97, 98])) (.cons (.var 9) (.cons (.var 8) .nil)))) (.tup (.cons (.cst (.str [97, 98])) (.cons (.bin .add (.var 8) (.sub (.call 8 (.cons (.var 9) .nil)) (.cst (.int 0)))) (.cons (.bin .add (.var 8) (.sub (.call 8 (.cons (.var 9) .nil)) (.cst (.int 1)))) .nil))))) (.cons (.retE (.cst (.bl false)))
    .nil) .nil)
    (.cons (.retE (.call 18 (.cons (.var 0) (.cons (.var 9) .nil))))
    .nil))))))))))))))))))
def f_law : Py.Fd := ⟨1, 12, b_law⟩
def d_law : PD := ⟨"law", ["_law_script", "_law_both", "_law_due", "_law_there", "_law_back", "_law_rows", "_law_row", "_law_late", "_law_now", "_law_one", "_law_other", "_law_offset"], top 34, f_law⟩
def ds : List PD := [d_is_integer, d_is_time, d_is_name, d_is_exchange, d_check_exchange, d_find_delay, d_find_offsets, d_delay, d_offsets, d_check_delays, d_offsets_with, d_common_offsets, d_delayed, d_report_of, d__law_drawn, d__law_exchange, d__law_error, d__law_offsets, d__law_rejected, d_law]
def gs : List (Str × Py.D) := [("MAX_TIME", (.int 9999)), ("MAX_NAME", (.int 3)), ("LETTERS", (.str [97, 98, 99, 100, 101, 102, 103, 104, 105, 106, 107, 108, 109, 110, 111, 112, 113, 114, 115, 116, 117, 118, 119, 120, 121, 122])), ("MAX_EXCHANGES", (.int 10))]
def cs : List Str := ["VoteError", "InvalidTime", "TooLarge", "InvalidExchange", "InvalidExchanges", "InvalidDelays", "InvalidName"]
def subL : List (Nat × Nat) := [(0, 0), (1, 0), (1, 1), (2, 0), (2, 2), (3, 0), (3, 3), (4, 0), (4, 4), (5, 0), (5, 5), (6, 0), (6, 6)]
def sub (n m : Nat) : Bool := subL.contains (n, m)
def P : PT := ⟨ds, gs, cs, ["len", "max", "min", "all", "sorted", "tuple", "list", "isinstance", "range", "int", "bool", "str"], sub⟩
def lawi : Nat := 19
theorem bi_is_integer : BindOk d_is_integer := fun _ _ _ _ _ _ us hl => match us, hl with | [_], _ => rfl
theorem bi_is_time : BindOk d_is_time := fun _ _ _ _ _ _ us hl => match us, hl with | [_], _ => rfl
theorem bi_is_name : BindOk d_is_name := fun _ _ _ _ _ _ us hl => match us, hl with | [_], _ => rfl
theorem bi_is_exchange : BindOk d_is_exchange := fun _ _ _ _ _ _ us hl => match us, hl with | [_], _ => rfl
theorem bi_check_exchange : BindOk d_check_exchange := fun _ _ _ _ _ _ us hl => match us, hl with | [_], _ => rfl
theorem bi_find_delay : BindOk d_find_delay := fun _ _ _ _ _ _ us hl => match us, hl with | [_], _ => rfl
theorem bi_find_offsets : BindOk d_find_offsets := fun _ _ _ _ _ _ us hl => match us, hl with | [_], _ => rfl
theorem bi_delay : BindOk d_delay := fun _ _ _ _ _ _ us hl => match us, hl with | [_], _ => rfl
theorem bi_offsets : BindOk d_offsets := fun _ _ _ _ _ _ us hl => match us, hl with | [_], _ => rfl
theorem bi_check_delays : BindOk d_check_delays := fun _ _ _ _ _ _ us hl => match us, hl with | [_, _], _ => rfl
theorem bi_offsets_with : BindOk d_offsets_with := fun _ _ _ _ _ _ us hl => match us, hl with | [_, _, _], _ => rfl
theorem bi_common_offsets : BindOk d_common_offsets := fun _ _ _ _ _ _ us hl => match us, hl with | [_], _ => rfl
theorem bi_delayed : BindOk d_delayed := fun _ _ _ _ _ _ us hl => match us, hl with | [_, _, _], _ => rfl
theorem bi_report_of : BindOk d_report_of := fun _ _ _ _ _ _ us hl => match us, hl with | [_, _, _], _ => rfl
theorem bi__law_drawn : BindOk d__law_drawn := fun _ _ _ _ _ _ us hl => match us, hl with | [_, _, _], _ => rfl
theorem bi__law_exchange : BindOk d__law_exchange := fun _ _ _ _ _ _ us hl => match us, hl with | [_, _], _ => rfl
theorem bi__law_error : BindOk d__law_error := fun _ _ _ _ _ _ us hl => match us, hl with | [_, _, _, _], _ => rfl
theorem bi__law_offsets : BindOk d__law_offsets := fun _ _ _ _ _ _ us hl => match us, hl with | [_, _, _], _ => rfl
theorem bi__law_rejected : BindOk d__law_rejected := fun _ _ _ _ _ _ us hl => match us, hl with | [_, _], _ => rfl
theorem bi_law : BindOk d_law := fun _ _ _ _ _ _ us hl => match us, hl with | [_], _ => rfl
theorem binds : ∀ d ∈ P.ds, BindOk d := by
  intro d hd
  replace hd : d ∈ ds := hd
  simp only [ds, List.mem_cons, List.not_mem_nil, or_false] at hd
  rcases hd with rfl | rfl | rfl | rfl | rfl | rfl | rfl | rfl | rfl | rfl | rfl | rfl | rfl | rfl | rfl | rfl | rfl | rfl | rfl | rfl
  · exact bi_is_integer
  · exact bi_is_time
  · exact bi_is_name
  · exact bi_is_exchange
  · exact bi_check_exchange
  · exact bi_find_delay
  · exact bi_find_offsets
  · exact bi_delay
  · exact bi_offsets
  · exact bi_check_delays
  · exact bi_offsets_with
  · exact bi_common_offsets
  · exact bi_delayed
  · exact bi_report_of
  · exact bi__law_drawn
  · exact bi__law_exchange
  · exact bi__law_error
  · exact bi__law_offsets
  · exact bi__law_rejected
  · exact bi_law
theorem ok_is_integer : PD.ok P d_is_integer = true := by decide +kernel
theorem ok_is_time : PD.ok P d_is_time = true := by decide +kernel
theorem ok_is_name : PD.ok P d_is_name = true := by decide +kernel
theorem ok_is_exchange : PD.ok P d_is_exchange = true := by decide +kernel
theorem ok_check_exchange : PD.ok P d_check_exchange = true := by decide +kernel
theorem ok_find_delay : PD.ok P d_find_delay = true := by decide +kernel
theorem ok_find_offsets : PD.ok P d_find_offsets = true := by decide +kernel
theorem ok_delay : PD.ok P d_delay = true := by decide +kernel
theorem ok_offsets : PD.ok P d_offsets = true := by decide +kernel
theorem ok_check_delays : PD.ok P d_check_delays = true := by decide +kernel
theorem ok_offsets_with : PD.ok P d_offsets_with = true := by decide +kernel
theorem ok_common_offsets : PD.ok P d_common_offsets = true := by decide +kernel
theorem ok_delayed : PD.ok P d_delayed = true := by decide +kernel
theorem ok_report_of : PD.ok P d_report_of = true := by decide +kernel
theorem ok__law_drawn : PD.ok P d__law_drawn = true := by decide +kernel
theorem ok__law_exchange : PD.ok P d__law_exchange = true := by decide +kernel
theorem ok__law_error : PD.ok P d__law_error = true := by decide +kernel
theorem ok__law_offsets : PD.ok P d__law_offsets = true := by decide +kernel
theorem ok__law_rejected : PD.ok P d__law_rejected = true := by decide +kernel
theorem ok_law : PD.ok P d_law = true := by decide +kernel
theorem oks : ∀ d ∈ P.ds, PD.ok P d = true := by
  intro d hd
  replace hd : d ∈ ds := hd
  simp only [ds, List.mem_cons, List.not_mem_nil, or_false] at hd
  rcases hd with rfl | rfl | rfl | rfl | rfl | rfl | rfl | rfl | rfl | rfl | rfl | rfl | rfl | rfl | rfl | rfl | rfl | rfl | rfl | rfl
  · exact ok_is_integer
  · exact ok_is_time
  · exact ok_is_name
  · exact ok_is_exchange
  · exact ok_check_exchange
  · exact ok_find_delay
  · exact ok_find_offsets
  · exact ok_delay
  · exact ok_offsets
  · exact ok_check_delays
  · exact ok_offsets_with
  · exact ok_common_offsets
  · exact ok_delayed
  · exact ok_report_of
  · exact ok__law_drawn
  · exact ok__law_exchange
  · exact ok__law_error
  · exact ok__law_offsets
  · exact ok__law_rejected
  · exact ok_law
theorem gok : P.gs.all cOk = true := by decide +kernel
abbrev R : PySem.W.OpenRow := PySem.W.OpenLaw.row PySem.Challenge.rw_timevote_k52_exchanges
def lo0 : List PySem.Str := ["VoteError", "InvalidTime", "TooLarge", "InvalidExchange", "InvalidExchanges", "InvalidDelays", "InvalidName", "MAX_TIME", "MAX_NAME", "LETTERS", "is_integer", "is_time", "is_name", "MAX_EXCHANGES", "is_exchange", "check_exchange", "find_delay", "find_offsets", "delay", "offsets", "check_delays", "offsets_with", "common_offsets", "delayed", "report_of", "_law_drawn", "_law_exchange", "_law_error", "_law_offsets", "_law_rejected"]
abbrev loose : List PySem.Str := lo0
abbrev hk : PySem.W.Hook := P.hook 4
def ob (s : PySem.W.SharedT) : Bool × He.AlD := P.obs 4 (HandSHeadRun.getT s)
theorem ob_eq (s : PySem.W.SharedT) : ob s = hk.obs s.abs := PT.obs_eq (HandSHeadRun.getT_eq s)
theorem run (w : World) : HandSHeadRun.RunEq R (PySem.W.view R.prog [34]) hk ob 6000 loose w := by
  intro os
  kernel_rfl
end Lw
open PySem PySem.W PySem.Calls PyProof.Rows
theorem Lw.holds (hw : ∀ ns : List Int, ns.length ≤ 63 → ∃ ω', Py.phi Lw.P.prog 8 Lw.lawi [.scr (ns.map .int)] [] = .ok (.bl true) ω') : PySem.Challenge.rw_timevote_k52_exchanges.Holds := by
  w_on; o_law
  refine HandSHeadRun.head_any (r := OpenLaw.row PySem.Challenge.rw_timevote_k52_exchanges) (q := view (OpenLaw.row PySem.Challenge.rw_timevote_k52_exchanges).prog [34]) (H := Lw.hk) (ob := Lw.ob) (M := 6000) (loose := Lw.loose) (d := HandSHeadRun.topDef (OpenLaw.row PySem.Challenge.rw_timevote_k52_exchanges).prog 34) (kwd := []) Lw.ob_eq
    (by kernel_rfl) (fun s => by kernel_rfl) Lw.run (by kernel_rfl) (by kernel_rfl) (by kernel_rfl) (by rfl) (by first | assumption | decide +kernel) (by decide +kernel) ⟨rfl, rfl, rfl, rfl, rfl, by decide +kernel⟩ ?hw ?hc
  case hw => w_witness2
  case hc =>
    refine L2.walk_ofE (l := PySem.Challenge.rw_timevote_k52_exchanges) (n := 63) (k := 8) (x := "_law_script") (CX := PyS.CXA PySem.Challenge.rw_timevote_k52_exchanges.prog) rfl (by decide) (by kernel_rfl) ⟨rfl, by decide, by decide⟩ ?F PyS.no_exc
    exact PyS.walk_law (p := Lw.P) (l := PySem.Challenge.rw_timevote_k52_exchanges) (n := 63) (k := 8) (i := Lw.lawi) (dl := Lw.d_law) (x := "_law_script") (m := 4) rfl (by decide) (by kernel_rfl) ⟨rfl, by decide, by decide⟩ rfl (by kernel_rfl) (by decide +kernel) rfl Lw.binds (fun g hg => List.all_eq_true.mp Lw.gok g hg) Lw.oks hw

end
section
namespace Lw
open Py
/-! plain law -/
abbrev F (k i : Nat) (ds : List D) : M D := phi P.prog k i ds
abbrev Lk' (k : Nat) : Lk := ⟨phi P.prog k, P.g, P.sub⟩
theorem oret (d : D) : outM (retS d) = ret d := rfl
theorem onext (r : Env) : outM (nextS r) = ret .non := rfl
theorem orse (c : Nat) (r : Env) : outM (rseS c r) = rse c := rfl
theorem oite {p : Prop} [Decidable p] (a b : SM) : outM (if p then a else b) = if p then outM a else outM b := by split <;> rfl
theorem bite {α β : Type} {p : Prop} [Decidable p] (a b : M α) (f : α → M β) : bnd (if p then a else b) f = if p then bnd a f else bnd b f := by split <;> rfl
theorem beite {α : Type} {p : Prop} [Decidable p] (r : Env) (a b : M α) (f : α → SM) : bndE r (if p then a else b) f = if p then bndE r a f else bndE r b f := by split <;> rfl
theorem lite {α : Type} {p : Prop} [Decidable p] (a b : Option α) : lif (if p then a else b) = if p then lif a else lif b := by split <;> rfl
theorem rite {p : Prop} [Decidable p] (a b : D) : (if p then ret a else ret b) = ret (if p then a else b) := by split <;> rfl
theorem blite {p : Prop} [Decidable p] : (if p then ret (D.bl true) else ret (D.bl false)) = ret (D.bl (decide p)) := by split <;> simp [*]
theorem u_is_integer (k : Nat) (ds : List D) : F (k + 1) 0 ds = runF (Lk' k) f_is_integer ds := rfl
theorem u_is_time (k : Nat) (ds : List D) : F (k + 1) 1 ds = runF (Lk' k) f_is_time ds := rfl
def isInt : D → Bool
  | .int _ => true
  | _ => false
/-- a value that is none of the kinds that no text here makes -/
def okD : D → Bool
  | .scr _ => false | .loc _ => false | .exc _ => false | .clo .. => false | .fn _ => false
  | _ => true
theorem g0 : P.g 0 = .int 9999 := rfl
theorem g1 : P.g 1 = .int 3 := rfl
theorem g3 : P.g 3 = .int 10 := rfl
theorem s_is_integer (k : Nat) (d : D) (h : okD d = true) : F (k + 1) 0 [d] = ret (.bl (isInt d)) := by
  rw [u_is_integer]
  cases d <;> first | (cases h; done) | simp [oret, onext, orse, oite, bite, beite, lite, evSs, evS, ev, evs, evi, runF, Fd.env, Env.get, Slot.val, Slot.own, Slot.exc, tru, asInt, fnD, lstD, unpD, setAll, setPar, slotOf, bindT, wipeT, binD, LIM, g0, g1, g3, f_is_integer, b_is_integer, isTy, isInt]
def isTime : D → Bool
  | .int i => decide (0 ≤ i) && decide (i ≤ 9999)
  | _ => false
theorem s_is_time (k : Nat) (d : D) (h : okD d = true) : F (k + 2) 1 [d] = ret (.bl (isTime d)) := by
  rw [u_is_time]
  have z := s_is_integer k d h
  simp only [F] at z
  cases d <;> first | (cases h; done) | simp [oret, onext, orse, oite, bite, beite, lite, evSs, evS, ev, evs, evi, runF, Fd.env, Env.get, Slot.val, Slot.own, Slot.exc, tru, asInt, fnD, lstD, unpD, setAll, setPar, slotOf, bindT, wipeT, binD, LIM, g0, g1, g3, f_is_time, b_is_time, z, isInt, isTime, cmpD, ltD]
  split <;> simp [oret, onext, orse, oite, bite, beite, lite, evSs, evS, ev, evs, evi, runF, Fd.env, Env.get, Slot.val, Slot.own, Slot.exc, tru, asInt, fnD, lstD, unpD, setAll, setPar, slotOf, bindT, wipeT, binD, LIM, g0, g1, g3, *]

theorem u_is_exchange (k : Nat) (ds : List D) : F (k + 1) 3 ds = runF (Lk' k) f_is_exchange ds := rfl
def exB : D → Bool
  | .tup [.int a, .int b, .int c, .int e] => isTime (.int a) && isTime (.int b) && isTime (.int c) && isTime (.int e) && (decide (a ≤ e) && (decide (b ≤ c) && decide (c - b ≤ e - a)))
  | _ => false
theorem time_int {d : D} (h : isTime d = true) : ∃ i, d = .int i := by cases d <;> first | (cases h; done) | exact ⟨_, rfl⟩
theorem exB_time {a b c e : D} (h : exB (.tup [a, b, c, e]) = true) : isTime a = true ∧ isTime b = true ∧ isTime c = true ∧ isTime e = true := by
  unfold exB at h
  split at h
  · rename_i q
    cases q
    simp only [Bool.and_eq_true] at h
    exact ⟨h.1.1.1.1, h.1.1.1.2, h.1.1.2, h.1.2⟩
  · cases h
theorem s_ex4 (k : Nat) (a b c e : D) (ha : okD a = true) (hb : okD b = true) (hc : okD c = true) (he : okD e = true) : F (k + 3) 3 [.tup [a, b, c, e]] = ret (.bl (exB (.tup [a, b, c, e]))) := by
  rw [u_is_exchange]
  have za := s_is_time k a ha
  have zb := s_is_time k b hb
  have zc := s_is_time k c hc
  have ze := s_is_time k e he
  simp only [F] at za zb zc ze
  by_cases h : isTime a = true ∧ isTime b = true ∧ isTime c = true ∧ isTime e = true
  · obtain ⟨h1, h2, h3, h4⟩ := h
    obtain ⟨a, rfl⟩ := time_int h1
    obtain ⟨b, rfl⟩ := time_int h2
    obtain ⟨c, rfl⟩ := time_int h3
    obtain ⟨e, rfl⟩ := time_int h4
    simp [oret, onext, orse, oite, bite, beite, lite, evSs, evS, ev, evs, evi, runF, Fd.env, Env.get, Slot.val, Slot.own, Slot.exc, tru, asInt, fnD, lstD, unpD, setAll, setPar, slotOf, bindT, wipeT, binD, LIM, g0, g1, g3, f_is_exchange, b_is_exchange, isTy, bltD, lenD, cmpD, shS, shp, eqD, itD, compM, za, zb, zc, ze, h1, h2, h3, h4, allD, toBls, ltD, exB]
    split <;> simp [oret, onext, orse, oite, bite, beite, lite, evSs, evS, ev, evs, evi, runF, Fd.env, Env.get, Slot.val, Slot.own, Slot.exc, tru, asInt, fnD, lstD, unpD, setAll, setPar, slotOf, bindT, wipeT, binD, LIM, g0, g1, g3, *]
    split <;> simp [oret, onext, orse, oite, bite, beite, lite, evSs, evS, ev, evs, evi, runF, Fd.env, Env.get, Slot.val, Slot.own, Slot.exc, tru, asInt, fnD, lstD, unpD, setAll, setPar, slotOf, bindT, wipeT, binD, LIM, g0, g1, g3, *]
  · have hx : exB (.tup [a, b, c, e]) = false := by
      cases q : exB (.tup [a, b, c, e]) with
      | false => rfl
      | true => exact absurd (exB_time q) h
    rw [hx]
    have hall : (isTime a && (isTime b && (isTime c && isTime e))) = false := by
      cases q : (isTime a && (isTime b && (isTime c && isTime e))) with
      | false => rfl
      | true => simp only [Bool.and_eq_true] at q; exact absurd q h
    simp [oret, onext, orse, oite, bite, beite, lite, evSs, evS, ev, evs, evi, runF, Fd.env, Env.get, Slot.val, Slot.own, Slot.exc, tru, asInt, fnD, lstD, unpD, setAll, setPar, slotOf, bindT, wipeT, binD, LIM, g0, g1, g3, f_is_exchange, b_is_exchange, isTy, bltD, lenD, cmpD, shS, shp, eqD, itD, compM, za, zb, zc, ze, allD, toBls, hall]
/-- not a tuple of four -/
def no4 : D → Bool
  | .tup [_, _, _, _] => false
  | d => okD d
theorem s_exNo (k : Nat) (d : D) (h : no4 d = true) : F (k + 3) 3 [d] = ret (.bl false) := by
  rw [u_is_exchange]
  cases d with
  | tup xs =>
    have hl : ((xs.length : Int) == 4) = false := by
      have : xs.length ≠ 4 := by
        intro e
        match xs, e with
        | [_, _, _, _], _ => cases h
      cases q : ((xs.length : Int) == 4) with
      | false => rfl
      | true => have := eq_of_beq q; omega
    have e1 : eqD (.int (xs.length : Int)) (.int 4) = false := by simpa only [eqD] using hl
    have e2 : ∀ i : Int, shp 8 (.int i) = true := fun i => by simp [oret, onext, orse, oite, bite, beite, lite, evSs, evS, ev, evs, evi, runF, Fd.env, Env.get, Slot.val, Slot.own, Slot.exc, tru, asInt, fnD, lstD, unpD, setAll, setPar, slotOf, bindT, wipeT, binD, LIM, g0, g1, g3, shp]
    have e3 : cmpD .ne (.int (xs.length : Int)) (.int 4) = some true := by
      show (if (shS (.int (xs.length : Int)) && shp 8 (.int 4)) = true then some (!eqD (.int (xs.length : Int)) (.int 4)) else none) = _
      rw [e1]
      simp [oret, onext, orse, oite, bite, beite, lite, evSs, evS, ev, evs, evi, runF, Fd.env, Env.get, Slot.val, Slot.own, Slot.exc, tru, asInt, fnD, lstD, unpD, setAll, setPar, slotOf, bindT, wipeT, binD, LIM, g0, g1, g3, shS, e2]
    simp [oret, onext, orse, oite, bite, beite, lite, evSs, evS, ev, evs, evi, runF, Fd.env, Env.get, Slot.val, Slot.own, Slot.exc, tru, asInt, fnD, lstD, unpD, setAll, setPar, slotOf, bindT, wipeT, binD, LIM, g0, g1, g3, f_is_exchange, b_is_exchange, isTy, bltD, lenD, e3]
  | _ => first | (cases h; done) | simp [oret, onext, orse, oite, bite, beite, lite, evSs, evS, ev, evs, evi, runF, Fd.env, Env.get, Slot.val, Slot.own, Slot.exc, tru, asInt, fnD, lstD, unpD, setAll, setPar, slotOf, bindT, wipeT, binD, LIM, g0, g1, g3, f_is_exchange, b_is_exchange, isTy, bltD, lenD, cmpD, shS, shp, eqD]
theorem u_check (k : Nat) (ds : List D) : F (k + 1) 4 ds = runF (Lk' k) f_check_exchange ds := rfl
theorem s_check {k : Nat} {d : D} {b : Bool} (h : F k 3 [d] = ret (.bl b)) : F (k + 1) 4 [d] = if b = true then ret .non else rse 3 := by
  rw [u_check]
  simp only [F] at h
  simp [oret, onext, orse, oite, bite, beite, lite, evSs, evS, ev, evs, evi, runF, Fd.env, Env.get, Slot.val, Slot.own, Slot.exc, tru, asInt, fnD, lstD, unpD, setAll, setPar, slotOf, bindT, wipeT, binD, LIM, g0, g1, g3, f_check_exchange, b_check_exchange, h]
  cases b <;> simp [oret, onext, orse, oite, bite, beite, lite, evSs, evS, ev, evs, evi, runF, Fd.env, Env.get, Slot.val, Slot.own, Slot.exc, tru, asInt, fnD, lstD, unpD, setAll, setPar, slotOf, bindT, wipeT, binD, LIM, g0, g1, g3]
theorem u_fdelay (k : Nat) (ds : List D) : F (k + 1) 5 ds = runF (Lk' k) f_find_delay ds := rfl
theorem u_foff (k : Nat) (ds : List D) : F (k + 1) 6 ds = runF (Lk' k) f_find_offsets ds := rfl
abbrev X4 (a b c e : Int) : D := .tup [.int a, .int b, .int c, .int e]
theorem s_fdelay (k : Nat) (a b c e : Int) : F (k + 1) 5 [X4 a b c e] = ret (.int (e - a - (c - b))) := by
  rw [u_fdelay]
  simp [oret, onext, orse, oite, bite, beite, lite, evSs, evS, ev, evs, evi, runF, Fd.env, Env.get, Slot.val, Slot.own, Slot.exc, tru, asInt, fnD, lstD, unpD, setAll, setPar, slotOf, bindT, wipeT, binD, LIM, g0, g1, g3, f_find_delay, b_find_delay]
theorem s_foff (k : Nat) (a b c e : Int) : F (k + 1) 6 [X4 a b c e] = ret (.tup [.int (c - e), .int (b - a)]) := by
  rw [u_foff]
  simp [oret, onext, orse, oite, bite, beite, lite, evSs, evS, ev, evs, evi, runF, Fd.env, Env.get, Slot.val, Slot.own, Slot.exc, tru, asInt, fnD, lstD, unpD, setAll, setPar, slotOf, bindT, wipeT, binD, LIM, g0, g1, g3, f_find_offsets, b_find_offsets]
theorem u_delay (k : Nat) (ds : List D) : F (k + 1) 7 ds = runF (Lk' k) f_delay ds := rfl
theorem u_off (k : Nat) (ds : List D) : F (k + 1) 8 ds = runF (Lk' k) f_offsets ds := rfl
/-- an exchange -/
structure Ex (a b c e : Int) : Prop where
  ok : exB (X4 a b c e) = true
theorem Ex.is {a b c e : Int} (h : Ex a b c e) (k : Nat) : F (k + 3) 3 [X4 a b c e] = ret (.bl true) := by rw [s_ex4 k _ _ _ _ rfl rfl rfl rfl]; rw [h.ok]
theorem Ex.check {a b c e : Int} (h : Ex a b c e) (k : Nat) : F (k + 4) 4 [X4 a b c e] = ret .non := by rw [s_check (h.is k)]; rfl
theorem s_delay {a b c e : Int} (h : Ex a b c e) (k : Nat) : F (k + 5) 7 [X4 a b c e] = ret (.int (e - a - (c - b))) := by
  rw [u_delay]
  have h1 := h.check k
  have h2 := s_fdelay (k + 3) a b c e
  simp only [F] at h1 h2
  simp [oret, onext, orse, oite, bite, beite, lite, evSs, evS, ev, evs, evi, runF, Fd.env, Env.get, Slot.val, Slot.own, Slot.exc, tru, asInt, fnD, lstD, unpD, setAll, setPar, slotOf, bindT, wipeT, binD, LIM, g0, g1, g3, f_delay, b_delay, h1, h2]
theorem s_off {a b c e : Int} (h : Ex a b c e) (k : Nat) : F (k + 5) 8 [X4 a b c e] = ret (.tup [.int (c - e), .int (b - a)]) := by
  rw [u_off]
  have h1 := h.check k
  have h2 := s_foff (k + 3) a b c e
  simp only [F] at h1 h2
  simp [oret, onext, orse, oite, bite, beite, lite, evSs, evS, ev, evs, evi, runF, Fd.env, Env.get, Slot.val, Slot.own, Slot.exc, tru, asInt, fnD, lstD, unpD, setAll, setPar, slotOf, bindT, wipeT, binD, LIM, g0, g1, g3, f_offsets, b_offsets, h1, h2]
theorem s_delayN {d : D} {k : Nat} (h : F (k + 3) 3 [d] = ret (.bl false)) : F (k + 5) 7 [d] = rse 3 := by
  rw [u_delay]
  have h1 := s_check h
  simp only [F] at h1
  simp [oret, onext, orse, oite, bite, beite, lite, evSs, evS, ev, evs, evi, runF, Fd.env, Env.get, Slot.val, Slot.own, Slot.exc, tru, asInt, fnD, lstD, unpD, setAll, setPar, slotOf, bindT, wipeT, binD, LIM, g0, g1, g3, f_delay, b_delay, h1]
theorem s_offN {d : D} {k : Nat} (h : F (k + 3) 3 [d] = ret (.bl false)) : F (k + 5) 8 [d] = rse 3 := by
  rw [u_off]
  have h1 := s_check h
  simp only [F] at h1
  simp [oret, onext, orse, oite, bite, beite, lite, evSs, evS, ev, evs, evi, runF, Fd.env, Env.get, Slot.val, Slot.own, Slot.exc, tru, asInt, fnD, lstD, unpD, setAll, setPar, slotOf, bindT, wipeT, binD, LIM, g0, g1, g3, f_offsets, b_offsets, h1]
theorem u_cdel (k : Nat) (ds : List D) : F (k + 1) 9 ds = runF (Lk' k) f_check_delays ds := rfl
theorem s_cdel {k : Nat} {x y : D} (hx : okD x = true) (hy : okD y = true) : F (k + 3) 9 [x, y] = if (isTime x && isTime y) = true then ret .non else rse 5 := by
  rw [u_cdel]
  have h1 := s_is_time k x hx
  have h2 := s_is_time k y hy
  simp only [F] at h1 h2
  simp [oret, onext, orse, oite, bite, beite, lite, evSs, evS, ev, evs, evi, runF, Fd.env, Env.get, Slot.val, Slot.own, Slot.exc, tru, asInt, fnD, lstD, unpD, setAll, setPar, slotOf, bindT, wipeT, binD, LIM, g0, g1, g3, f_check_delays, b_check_delays, h1, h2]
  cases isTime x <;> cases isTime y <;> simp [oret, onext, orse, oite, bite, beite, lite, evSs, evS, ev, evs, evi, runF, Fd.env, Env.get, Slot.val, Slot.own, Slot.exc, tru, asInt, fnD, lstD, unpD, setAll, setPar, slotOf, bindT, wipeT, binD, LIM, g0, g1, g3]
theorem u_offw (k : Nat) (ds : List D) : F (k + 1) 10 ds = runF (Lk' k) f_offsets_with ds := rfl
theorem s_offwN {d x y : D} {k : Nat} (h : F (k + 3) 3 [d] = ret (.bl false)) : F (k + 5) 10 [d, x, y] = rse 3 := by
  rw [u_offw]
  have h1 := s_check h
  simp only [F] at h1
  simp [oret, onext, orse, oite, bite, beite, lite, evSs, evS, ev, evs, evi, runF, Fd.env, Env.get, Slot.val, Slot.own, Slot.exc, tru, asInt, fnD, lstD, unpD, setAll, setPar, slotOf, bindT, wipeT, binD, LIM, g0, g1, g3, f_offsets_with, b_offsets_with, h1]
theorem s_offwB {a b c e : Int} (h : Ex a b c e) {x y : D} {k : Nat} (hx : okD x = true) (hy : okD y = true) (hb : (isTime x && isTime y) = false) : F (k + 5) 10 [X4 a b c e, x, y] = rse 5 := by
  rw [u_offw]
  have h1 := h.check k
  have h2 := s_cdel (k := k + 1) hx hy
  rw [hb] at h2
  simp only [F] at h1 h2
  simp [oret, onext, orse, oite, bite, beite, lite, evSs, evS, ev, evs, evi, runF, Fd.env, Env.get, Slot.val, Slot.own, Slot.exc, tru, asInt, fnD, lstD, unpD, setAll, setPar, slotOf, bindT, wipeT, binD, LIM, g0, g1, g3, f_offsets_with, b_offsets_with, h1, h2]
theorem s_offw {a b c e : Int} (h : Ex a b c e) {x y : Int} {k : Nat} (hb : (isTime (.int x) && isTime (.int y)) = true) : F (k + 5) 10 [X4 a b c e, .int x, .int y] = if e - a - (c - b) < x + y then rse 5 else ret (.tup [.int (c - e + y), .int (b - a - x)]) := by
  rw [u_offw]
  have h1 := h.check k
  have h2 := s_cdel (k := k + 1) (x := .int x) (y := .int y) rfl rfl
  rw [hb] at h2
  have h3 := s_fdelay (k + 3) a b c e
  have h4 := s_foff (k + 3) a b c e
  simp only [F] at h1 h2 h3 h4
  simp [oret, onext, orse, oite, bite, beite, lite, evSs, evS, ev, evs, evi, runF, Fd.env, Env.get, Slot.val, Slot.own, Slot.exc, tru, asInt, fnD, lstD, unpD, setAll, setPar, slotOf, bindT, wipeT, binD, LIM, g0, g1, g3, f_offsets_with, b_offsets_with, h1, h2, h3, h4, cmpD]

/-! ### errors -/
theorem u_err (k : Nat) (ds : List D) : F (k + 1) 16 ds = runF (Lk' k) f__law_error ds := rfl
def ix : Nat → Int
  | 3 => 0 | 5 => 1 | 4 => 2 | 6 => 3 | 1 => 4 | _ => 5
theorem catch_nx {mb : Env → SM} {kk : Nat → Env → SM} {r r' : Env} (h : mb r = nextS r') : catchS mb kk r = nextS r' := by
  unfold catchS; rw [h]; rfl
theorem catch_ex {mb : Env → SM} {kk : Nat → Env → SM} {r r' : Env} {c : Nat} (h : mb r = rseS c r') : catchS mb kk r = calmS (kk c r') := by
  unfold catchS; rw [h]; rfl
theorem calm_ret (d : D) : calmS (retS d) = retS d := rfl
/-- what the try's body does -/
def tryB : Ss := match b__law_error with
  | .cons (.trx b _ _) _ => b
  | _ => .nil
def sufB : Ss := match b__law_error with
  | .cons (.trx _ _ s) _ => s
  | _ => .nil
theorem suf_ok {c : Nat} (hc : c = 1 ∨ c = 2 ∨ c = 3 ∨ c = 4 ∨ c = 5 ∨ c = 6) (k : Nat) (w x y z : D) (s5 : Slot) : evSs (Lk' k) sufB [.v w, .v x, .v y, .v z, .x c, s5] = retS (.int (ix c)) := by
  rcases hc with rfl | rfl | rfl | rfl | rfl | rfl <;>
    simp [oret, onext, orse, oite, bite, beite, lite, evSs, evS, ev, evs, evi, runF, Fd.env, Env.get, Slot.val, Slot.own, Slot.exc, tru, asInt, fnD, lstD, unpD, setAll, setPar, slotOf, bindT, wipeT, binD, LIM, g0, g1, g3, sufB, b__law_error, sub, subL, P, indexD, shp, eqD, List.findIdx?, List.findIdx?.go, ix]
theorem err_nx {k : Nat} {w x y z : D} (h : evSs (Lk' k) tryB [.v w, .v x, .v y, .v z, .none, .none] = nextS [.v w, .v x, .v y, .v z, .none, .none]) : F (k + 1) 16 [w, x, y, z] = ret .non := by
  rw [u_err]
  have e : evSs (Lk' k) f__law_error.body [.v w, .v x, .v y, .v z, .none, .none] = retS .non := by
    show seqS (catchS (evSs (Lk' k) tryB) (fun c r' => seqS (evSs (Lk' k) sufB (r'.set 4 (.x c))) fun r => nextS (r.set 4 .none)) [.v w, .v x, .v y, .v z, .none, .none]) (fun r => evSs (Lk' k) (.cons (.retE (.cst .non)) .nil) r) = _
    rw [catch_nx h]
    simp [oret, onext, orse, oite, bite, beite, lite, evSs, evS, ev, evs, evi, runF, Fd.env, Env.get, Slot.val, Slot.own, Slot.exc, tru, asInt, fnD, lstD, unpD, setAll, setPar, slotOf, bindT, wipeT, binD, LIM, g0, g1, g3]
  show outM (evSs (Lk' k) f__law_error.body [.v w, .v x, .v y, .v z, .none, .none]) = _
  rw [e]
  rfl
theorem err_ex {k c : Nat} (hc : c = 1 ∨ c = 2 ∨ c = 3 ∨ c = 4 ∨ c = 5 ∨ c = 6) {w x y z : D} (h : evSs (Lk' k) tryB [.v w, .v x, .v y, .v z, .none, .none] = rseS c [.v w, .v x, .v y, .v z, .none, .none]) : F (k + 1) 16 [w, x, y, z] = ret (.int (ix c)) := by
  rw [u_err]
  have e : evSs (Lk' k) f__law_error.body [.v w, .v x, .v y, .v z, .none, .none] = retS (.int (ix c)) := by
    show seqS (catchS (evSs (Lk' k) tryB) (fun c r' => seqS (evSs (Lk' k) sufB (r'.set 4 (.x c))) fun r => nextS (r.set 4 .none)) [.v w, .v x, .v y, .v z, .none, .none]) (fun r => evSs (Lk' k) (.cons (.retE (.cst .non)) .nil) r) = _
    rw [catch_ex h]
    show seqS (calmS (seqS (evSs (Lk' k) sufB [.v w, .v x, .v y, .v z, .x c, .none]) fun r => nextS (r.set 4 .none))) _ = _
    rw [suf_ok hc]
    rfl
  show outM (evSs (Lk' k) f__law_error.body [.v w, .v x, .v y, .v z, .none, .none]) = _
  rw [e]
  rfl
def wayF : Nat → Nat
  | 0 => 7 | 1 => 8 | 2 => 10 | 3 => 12 | 4 => 11 | _ => 13
def wayA (w : Nat) (x y z : D) : List D := if w < 2 then [x] else if w < 4 then [x, y, z] else if w = 4 then [x] else [x, y, z]
theorem try_is (k : Nat) {w : Nat} (hw : w < 6) (x y z : D) : evSs (Lk' k) tryB [.v (.int w), .v x, .v y, .v z, .none, .none] = bndE [.v (.int w), .v x, .v y, .v z, .none, .none] (F k (wayF w) (wayA w x y z)) fun _ => nextS [.v (.int w), .v x, .v y, .v z, .none, .none] := by
  match w, hw with
  | 0, _ => simp [oret, onext, orse, oite, bite, beite, lite, evSs, evS, ev, evs, evi, runF, Fd.env, Env.get, Slot.val, Slot.own, Slot.exc, tru, asInt, fnD, lstD, unpD, setAll, setPar, slotOf, bindT, wipeT, binD, LIM, g0, g1, g3, tryB, b__law_error, cmpD, subD, ixN, wayF, wayA]
  | 1, _ => simp [oret, onext, orse, oite, bite, beite, lite, evSs, evS, ev, evs, evi, runF, Fd.env, Env.get, Slot.val, Slot.own, Slot.exc, tru, asInt, fnD, lstD, unpD, setAll, setPar, slotOf, bindT, wipeT, binD, LIM, g0, g1, g3, tryB, b__law_error, cmpD, subD, ixN, wayF, wayA]
  | 2, _ => simp [oret, onext, orse, oite, bite, beite, lite, evSs, evS, ev, evs, evi, runF, Fd.env, Env.get, Slot.val, Slot.own, Slot.exc, tru, asInt, fnD, lstD, unpD, setAll, setPar, slotOf, bindT, wipeT, binD, LIM, g0, g1, g3, tryB, b__law_error, cmpD, subD, ixN, wayF, wayA]
  | 3, _ => simp [oret, onext, orse, oite, bite, beite, lite, evSs, evS, ev, evs, evi, runF, Fd.env, Env.get, Slot.val, Slot.own, Slot.exc, tru, asInt, fnD, lstD, unpD, setAll, setPar, slotOf, bindT, wipeT, binD, LIM, g0, g1, g3, tryB, b__law_error, cmpD, subD, ixN, wayF, wayA]
  | 4, _ => simp [oret, onext, orse, oite, bite, beite, lite, evSs, evS, ev, evs, evi, runF, Fd.env, Env.get, Slot.val, Slot.own, Slot.exc, tru, asInt, fnD, lstD, unpD, setAll, setPar, slotOf, bindT, wipeT, binD, LIM, g0, g1, g3, tryB, b__law_error, cmpD, subD, ixN, wayF, wayA, shS, shp, eqD]
  | 5, _ => simp [oret, onext, orse, oite, bite, beite, lite, evSs, evS, ev, evs, evi, runF, Fd.env, Env.get, Slot.val, Slot.own, Slot.exc, tru, asInt, fnD, lstD, unpD, setAll, setPar, slotOf, bindT, wipeT, binD, LIM, g0, g1, g3, tryB, b__law_error, cmpD, subD, ixN, wayF, wayA, shS, shp, eqD]
theorem s_err {k w : Nat} (hw : w < 6) {x y z v : D} (h : F k (wayF w) (wayA w x y z) = ret v) : F (k + 1) 16 [.int w, x, y, z] = ret .non := err_nx (by rw [try_is k hw, h]; rfl)
theorem s_errX {k w c : Nat} (hw : w < 6) (hc : c = 1 ∨ c = 2 ∨ c = 3 ∨ c = 4 ∨ c = 5 ∨ c = 6) {x y z : D} (h : F k (wayF w) (wayA w x y z) = rse c) : F (k + 1) 16 [.int w, x, y, z] = ret (.int (ix c)) := err_ex hc (by rw [try_is k hw, h]; rfl)
end Lw

end
section
set_option maxHeartbeats 1000000
namespace Lw
open Py
theorem u_drawn (k : Nat) (ds : List D) : F (k + 1) 14 ds = runF (Lk' k) f__law_drawn ds := rfl
def wC : E := (.and (.cmp .gt (.var 5) (.cst (.int 0))) (.cmp .gt (.var 4) (.cst (.int 0))))
def wB : Ss := (.cons (.asg 5 (.bin .fdiv (.var 5) (.cst (.int 1000000)))) (.cons (.asg 4 (.bin .sub (.var 4) (.cst (.int 1)))) .nil))
theorem wh (L : Lk) (a b c d : Slot) : ∀ (n t : Nat) (r : Int), t < n → ∃ (r' : Int) (s' : Slot), evS L (.whl n wC wB) [a, b, c, d, .v (.int t), .v (.int r)] = nextS [a, b, c, d, s', .v (.int r')]
  | 0, t, r, h => absurd h (by omega)
  | n + 1, t, r, h => by
    by_cases hr : 0 < r
    · by_cases ht : 0 < t
      · obtain ⟨r', s', e⟩ := wh L a b c d n (t - 1) (r / 1000000) (by omega)
        refine ⟨r', s', ?_⟩
        have ht' : (0 : Int) < t := by omega
        have e1 : ((t : Int) - 1) = ((t - 1 : Nat) : Int) := by omega
        rw [← e]
        simp [oret, onext, orse, oite, bite, beite, lite, evSs, evs, evi, runF, Fd.env, Env.get, Slot.val, Slot.own, Slot.exc, tru, asInt, fnD, lstD, unpD, setAll, setPar, slotOf, bindT, wipeT, binD, LIM, g0, g1, g3, ev, evS.eq_14, whileS, wC, wB, cmpD, hr, ht, ht', evS.eq_1, e1]
      · refine ⟨r, .v (.int t), ?_⟩
        have ht' : ¬ (0 : Int) < t := by omega
        simp [oret, onext, orse, oite, bite, beite, lite, evSs, evs, evi, runF, Fd.env, Env.get, Slot.val, Slot.own, Slot.exc, tru, asInt, fnD, lstD, unpD, setAll, setPar, slotOf, bindT, wipeT, binD, LIM, g0, g1, g3, ev, evS.eq_14, whileS, wC, wB, cmpD, hr, ht, ht']
    · refine ⟨r, .v (.int t), ?_⟩
      simp [oret, onext, orse, oite, bite, beite, lite, evSs, evs, evi, runF, Fd.env, Env.get, Slot.val, Slot.own, Slot.exc, tru, asInt, fnD, lstD, unpD, setAll, setPar, slotOf, bindT, wipeT, binD, LIM, g0, g1, g3, ev, evS.eq_14, whileS, wC, wB, cmpD, hr]
theorem small_mod (x : Int) (m : Int) (h : 0 < m) (h2 : m ≤ 2147483647) : small (x % m) = true := by
  have h1 := Int.emod_nonneg x (by omega : m ≠ 0)
  have h2 := Int.emod_lt_of_pos x h
  unfold small
  simp [oret, onext, orse, oite, bite, beite, lite, evSs, evs, evi, runF, Fd.env, Env.get, Slot.val, Slot.own, Slot.exc, tru, asInt, fnD, lstD, unpD, setAll, setPar, slotOf, bindT, wipeT, binD, LIM, g0, g1, g3, ev]
  omega
def dTail : Ss := match b__law_drawn with
  | .cons _ (.cons _ r) => r
  | _ => .nil
def dIf : S := match b__law_drawn with
  | .cons _ (.cons s _) => s
  | _ => .retN
def mix1 (c i : Int) : Int := (c % 2147483563 * 69069 + 104723 * (i + 1)) % 2147483563
def mix2 (c i : Int) : Int := (mix1 c i * mix1 c i + mix1 c i / 3) % 2147483399
def mix (c i m : Int) : Int := (mix2 c i * mix2 c i + mix2 c i / 7) % 2147483647 / 11 % m
theorem sm1 : small 69069 = true := by decide
theorem sm2 : small 104723 = true := by decide
theorem sm3 : small 6553 = true := by decide
theorem sm4 : small 7 = true := by decide
theorem sm5 : small 10 = true := by decide
theorem tail_ok (k : Nat) (xs : List D) (i m c : Int) (s4 s5 : Slot) (hm : 0 < m) : evSs (Lk' k) dTail [.v (.scr xs), .v (.int i), .v (.int m), .v (.int c), s4, s5] = retS (.int (mix c i m)) := by
  have h1 : small (mix1 c i) = true := small_mod _ _ (by decide) (by decide)
  have h2 : small (mix2 c i) = true := small_mod _ _ (by decide) (by decide)
  simp only [dTail, b__law_drawn]
  simp only [mix1, mix2] at h1 h2
  simp [oret, onext, orse, oite, bite, beite, lite, evSs, evs, evi, runF, Fd.env, Env.get, Slot.val, Slot.own, Slot.exc, tru, asInt, fnD, lstD, unpD, setAll, setPar, slotOf, bindT, wipeT, binD, LIM, g0, g1, g3, ev, evS.eq_1, evS.eq_15, hm, sm1, sm2, mix, mix1, mix2, h1, h2]
theorem mix_lt (c i m : Int) (hm : 0 < m) : 0 ≤ mix c i m ∧ mix c i m < m := ⟨Int.emod_nonneg _ (by omega), Int.emod_lt_of_pos _ hm⟩
theorem drawn_body (k : Nat) (r : Env) : evSs (Lk' k) f__law_drawn.body r = seqS (evS (Lk' k) (.asg 3 (.bin .mul (.cst (.int 7)) (.var 1))) r) fun r => seqS (evS (Lk' k) dIf r) fun r => evSs (Lk' k) dTail r := rfl
theorem s_drawn (k : Nat) (ns : List Int) (i m : Int) (hl : ns.length ≤ 63) (hi : 0 ≤ i) (hm : 0 < m) : ∃ v, F (k + 1) 14 [.scr (ns.map .int), .int i, .int m] = ret (.int v) ∧ 0 ≤ v ∧ v < m := by
  have key : ∃ v, evSs (Lk' k) f__law_drawn.body [.v (.scr (ns.map .int)), .v (.int i), .v (.int m), .none, .none, .none] = retS (.int v) ∧ 0 ≤ v ∧ v < m := by
    rw [drawn_body]
    have e1 : evS (Lk' k) (.asg 3 (.bin .mul (.cst (.int 7)) (.var 1))) [.v (.scr (ns.map .int)), .v (.int i), .v (.int m), .none, .none, .none] = nextS [.v (.scr (ns.map .int)), .v (.int i), .v (.int m), .v (.int (7 * i)), .none, .none] := by
      simp [oret, onext, orse, oite, bite, beite, lite, evSs, evs, evi, runF, Fd.env, Env.get, Slot.val, Slot.own, Slot.exc, tru, asInt, fnD, lstD, unpD, setAll, setPar, slotOf, bindT, wipeT, binD, LIM, g0, g1, g3, ev, evS.eq_1, sm4]
    rw [e1, seqS_next]
    have hsh : (ns.map D.int).all (shp 1) = true := by
      rw [List.all_eq_true]
      intro x hx
      obtain ⟨n, _, rfl⟩ := List.mem_map.mp hx
      simp [oret, onext, orse, oite, bite, beite, lite, evSs, evs, evi, runF, Fd.env, Env.get, Slot.val, Slot.own, Slot.exc, tru, asInt, fnD, lstD, unpD, setAll, setPar, slotOf, bindT, wipeT, binD, LIM, g0, g1, g3, ev, shp]
    cases ns with
    | nil =>
      have e2 : evS (Lk' k) dIf [.v (.scr []), .v (.int i), .v (.int m), .v (.int (7 * i)), .none, .none] = nextS [.v (.scr []), .v (.int i), .v (.int m), .v (.int (7 * i)), .none, .none] := by
        simp [oret, onext, orse, oite, bite, beite, lite, evSs, evs, evi, runF, Fd.env, Env.get, Slot.val, Slot.own, Slot.exc, tru, asInt, fnD, lstD, unpD, setAll, setPar, slotOf, bindT, wipeT, binD, LIM, g0, g1, g3, ev, dIf, b__law_drawn, evS.eq_12, cmpD, shS, shp, eqD, eqL]
      refine ⟨mix (7 * i) i m, ?_, mix_lt _ _ _ hm⟩
      rw [show List.map D.int [] = [] from rfl, e2, seqS_next, tail_ok _ _ _ _ _ _ _ hm]
    | cons n0 nr =>
      have hlen : (0 : Int) < ((n0 :: nr).length : Int) := by simp [oret, onext, orse, oite, bite, beite, lite, evSs, evs, evi, runF, Fd.env, Env.get, Slot.val, Slot.own, Slot.exc, tru, asInt, fnD, lstD, unpD, setAll, setPar, slotOf, bindT, wipeT, binD, LIM, g0, g1, g3, ev]
      have hlen2 : ((n0 :: nr).length : Int) < 18446744073709551616 := by omega
      generalize hL : (n0 :: nr) = L at *
      have hle : (L.map D.int).length = L.length := List.length_map _
      obtain ⟨c, hc⟩ : ∃ c, subD (.scr (L.map .int)) (.int (i % (L.length : Int))) = some (.int c) := by
        have h1 := Int.emod_nonneg i (by omega : (L.length : Int) ≠ 0)
        have h2 := Int.emod_lt_of_pos i hlen
        have h3 : (i % (L.length : Int)).toNat < L.length := by omega
        refine ⟨L[(i % (L.length : Int)).toNat], ?_⟩
        simp [oret, onext, orse, oite, bite, beite, lite, evSs, evs, evi, runF, Fd.env, Env.get, Slot.val, Slot.own, Slot.exc, tru, asInt, fnD, lstD, unpD, setAll, setPar, slotOf, bindT, wipeT, binD, LIM, g0, g1, g3, ev, subD, ixN, h1, h2, h3]
      have hne : eqL (L.map D.int) [] = false := by rw [← hL]; rfl
      have hlenN : 0 < L.length := by omega
      have htn : 0 ≤ i / (L.length : Int) := Int.ediv_nonneg hi (by omega)
      have e2 : (∃ v, evS (Lk' k) dIf [.v (.scr (L.map .int)), .v (.int i), .v (.int m), .v (.int (7 * i)), .none, .none] = retS (.int v) ∧ 0 ≤ v ∧ v < m) ∨ ∃ c' s4 s5, evS (Lk' k) dIf [.v (.scr (L.map .int)), .v (.int i), .v (.int m), .v (.int (7 * i)), .none, .none] = nextS [.v (.scr (L.map .int)), .v (.int i), .v (.int m), .v (.int c'), s4, s5] := by
        have hsh2 : ∀ a ∈ L, shp 1 (.int a) = true := fun a _ => by simp [oret, onext, orse, oite, bite, beite, lite, evSs, evs, evi, runF, Fd.env, Env.get, Slot.val, Slot.own, Slot.exc, tru, asInt, fnD, lstD, unpD, setAll, setPar, slotOf, bindT, wipeT, binD, LIM, g0, g1, g3, ev, shp]
        by_cases hA : 1000000000000000000 ≤ c
        · by_cases hB : i / (L.length : Int) < 60
          · obtain ⟨r', s', hw⟩ := wh (Lk' k) (.v (.scr (L.map .int))) (.v (.int i)) (.v (.int m)) (.v (.int c)) 100000 (i / (L.length : Int)).toNat (c / 1000000000000000000) (by omega)
            rw [Int.toNat_of_nonneg htn] at hw
            simp only [wC, wB] at hw
            by_cases hr : 0 < r'
            · left
              refine ⟨r' % 1000000 % m, ?_, Int.emod_nonneg _ (by omega), Int.emod_lt_of_pos _ hm⟩
              simp [oret, onext, orse, oite, bite, beite, lite, evSs, evs, evi, runF, Fd.env, Env.get, Slot.val, Slot.own, Slot.exc, tru, asInt, fnD, lstD, unpD, setAll, setPar, slotOf, bindT, wipeT, binD, LIM, g0, g1, g3, ev, dIf, b__law_drawn, evS.eq_1, evS.eq_12, evS.eq_15, cmpD, shS, shp, eqD, hsh2, hne, bltD, lenD, hlen, hlenN, hlen2, hc, hA, hB, hw, hr, hm, sm5]
            · right
              refine ⟨c + 6553 * (i / (L.length : Int)), s', .v (.int r'), ?_⟩
              simp [oret, onext, orse, oite, bite, beite, lite, evSs, evs, evi, runF, Fd.env, Env.get, Slot.val, Slot.own, Slot.exc, tru, asInt, fnD, lstD, unpD, setAll, setPar, slotOf, bindT, wipeT, binD, LIM, g0, g1, g3, ev, dIf, b__law_drawn, evS.eq_1, evS.eq_12, evS.eq_15, cmpD, shS, shp, eqD, hsh2, hne, bltD, lenD, hlen, hlenN, hlen2, hc, hA, hB, hw, hr, hm, sm5, sm3]
          · right
            refine ⟨c + 6553 * (i / (L.length : Int)), .v (.int (i / (L.length : Int))), .none, ?_⟩
            simp [oret, onext, orse, oite, bite, beite, lite, evSs, evs, evi, runF, Fd.env, Env.get, Slot.val, Slot.own, Slot.exc, tru, asInt, fnD, lstD, unpD, setAll, setPar, slotOf, bindT, wipeT, binD, LIM, g0, g1, g3, ev, dIf, b__law_drawn, evS.eq_1, evS.eq_12, evS.eq_15, cmpD, shS, shp, eqD, hsh2, hne, bltD, lenD, hlen, hlenN, hlen2, hc, hA, hB, hm, sm5, sm3]
        · right
          refine ⟨c + 6553 * (i / (L.length : Int)), .v (.int (i / (L.length : Int))), .none, ?_⟩
          simp [oret, onext, orse, oite, bite, beite, lite, evSs, evs, evi, runF, Fd.env, Env.get, Slot.val, Slot.own, Slot.exc, tru, asInt, fnD, lstD, unpD, setAll, setPar, slotOf, bindT, wipeT, binD, LIM, g0, g1, g3, ev, dIf, b__law_drawn, evS.eq_1, evS.eq_12, evS.eq_15, cmpD, shS, shp, eqD, hsh2, hne, bltD, lenD, hlen, hlenN, hlen2, hc, hA, hm, sm5, sm3]
      rcases e2 with ⟨v, e2, h2⟩ | ⟨c', s4, s5, e2⟩
      · refine ⟨v, ?_, h2⟩
        rw [e2]
        rfl
      · refine ⟨mix c' i m, ?_, mix_lt _ _ _ hm⟩
        rw [e2, seqS_next, tail_ok _ _ _ _ _ _ _ hm]
  obtain ⟨v, h1, h2⟩ := key
  refine ⟨v, ?_, h2⟩
  rw [u_drawn]
  show outM (evSs (Lk' k) f__law_drawn.body [.v (.scr (ns.map .int)), .v (.int i), .v (.int m), .none, .none, .none]) = _
  rw [h1]
  rfl
end Lw

end
section
set_option maxHeartbeats 1000000
namespace Lw
open Py
theorem u_exch (k : Nat) (ds : List D) : F (k + 1) 15 ds = runF (Lk' k) f__law_exchange ds := rfl
/-- a drawn exchange -/
structure Dr (a b c e : Int) : Prop where
  a0 : 0 ≤ a
  a1 : a < 200
  both : 0 ≤ e - a - (c - b)
  both2 : e - a - (c - b) ≤ 58
  off : 40 ≤ b - a
  off2 : b - a < 369
  off3 : 0 ≤ c - e
  rest : 0 ≤ c - b
  rest2 : c - b < 20
theorem Dr.ex {a b c e : Int} (h : Dr a b c e) : Ex a b c e := ⟨by
  obtain ⟨h1, h2, h3, h4, h5, h6, h7, h8, h9⟩ := h
  simp only [exB, isTime, Bool.and_eq_true, decide_eq_true_eq]
  omega⟩
theorem exch_body (L : Lk) {xs : D} {i v1 v2 v3 v4 v5 : Int} (e1 : L.φ 14 [xs, .int i, .int 200] = ret (.int v1)) (e2 : L.φ 14 [xs, .int (i + 1), .int 30] = ret (.int v2)) (e3 : L.φ 14 [xs, .int (i + 2), .int 30] = ret (.int v3))
    (e4 : L.φ 14 [xs, .int (i + 3), .int 300] = ret (.int v4)) (e5 : L.φ 14 [xs, .int (i + 4), .int 20] = ret (.int v5)) : runF L f__law_exchange [xs, .int i] = ret (X4 v1 (v1 + v2 + (40 + v4)) (v1 + v2 + (40 + v4) + v5) (v1 + v2 + v5 + v3)) := by
  simp -implicitDefEqProofs [oret, onext, orse, oite, bite, beite, lite, evSs, evS, evs, evi, runF, Fd.env, Env.get, Slot.val, Slot.own, Slot.exc, tru, asInt, fnD, lstD, unpD, setAll, setPar, slotOf, bindT, wipeT, binD, LIM, g0, g1, g3, ev, f__law_exchange, b__law_exchange, e1, e2, e3, e4, e5]
theorem s_exch (k : Nat) (ns : List Int) (i : Int) (hl : ns.length ≤ 63) (hi : 0 ≤ i) : ∃ a b c e, F (k + 2) 15 [.scr (ns.map .int), .int i] = ret (X4 a b c e) ∧ Dr a b c e := by
  obtain ⟨v1, e1, p1, q1⟩ := s_drawn k ns i 200 hl hi (by decide)
  obtain ⟨v2, e2, p2, q2⟩ := s_drawn k ns (i + 1) 30 hl (by omega) (by decide)
  obtain ⟨v3, e3, p3, q3⟩ := s_drawn k ns (i + 2) 30 hl (by omega) (by decide)
  obtain ⟨v4, e4, p4, q4⟩ := s_drawn k ns (i + 3) 300 hl (by omega) (by decide)
  obtain ⟨v5, e5, p5, q5⟩ := s_drawn k ns (i + 4) 20 hl (by omega) (by decide)
  refine ⟨v1, v1 + v2 + (40 + v4), v1 + v2 + (40 + v4) + v5, v1 + v2 + v5 + v3, ?_, ?_⟩
  · rw [u_exch]
    exact exch_body (Lk' (k + 1)) e1 e2 e3 e4 e5
  · constructor <;> omega
theorem u_delayed (k : Nat) (ds : List D) : F (k + 1) 12 ds = runF (Lk' k) f_delayed ds := rfl
theorem s_delayedN {d x y : D} {k : Nat} (h : F (k + 3) 3 [d] = ret (.bl false)) : F (k + 5) 12 [d, x, y] = rse 3 := by
  rw [u_delayed]
  have h1 := s_check h
  simp only [F] at h1
  simp -implicitDefEqProofs [oret, onext, orse, oite, bite, beite, lite, evSs, evS, evs, evi, runF, Fd.env, Env.get, Slot.val, Slot.own, Slot.exc, tru, asInt, fnD, lstD, unpD, setAll, setPar, slotOf, bindT, wipeT, binD, LIM, g0, g1, g3, ev, f_delayed, b_delayed, h1]
theorem s_delayedB {a b c e : Int} (h : Ex a b c e) {x y : D} {k : Nat} (hx : okD x = true) (hy : okD y = true) (hb : (isTime x && isTime y) = false) : F (k + 5) 12 [X4 a b c e, x, y] = rse 5 := by
  rw [u_delayed]
  have h1 := h.check k
  have h2 := s_cdel (k := k + 1) hx hy
  rw [hb] at h2
  simp only [F] at h1 h2
  simp -implicitDefEqProofs [oret, onext, orse, oite, bite, beite, lite, evSs, evS, evs, evi, runF, Fd.env, Env.get, Slot.val, Slot.own, Slot.exc, tru, asInt, fnD, lstD, unpD, setAll, setPar, slotOf, bindT, wipeT, binD, LIM, g0, g1, g3, ev, f_delayed, b_delayed, h1, h2]
theorem s_delayed {a b c e : Int} (h : Ex a b c e) {x y : Int} {k : Nat} (hb : (isTime (.int x) && isTime (.int y)) = true) : F (k + 5) 12 [X4 a b c e, .int x, .int y] = if 9999 < c + x ∨ 9999 < e + x + y then rse 2 else ret (X4 a (b + x) (c + x) (e + x + y)) := by
  rw [u_delayed]
  have h1 := h.check k
  have h2 := s_cdel (k := k + 1) (x := .int x) (y := .int y) rfl rfl
  rw [hb] at h2
  simp only [F] at h1 h2
  simp -implicitDefEqProofs [oret, onext, orse, oite, bite, beite, lite, evSs, evS, evs, evi, runF, Fd.env, Env.get, Slot.val, Slot.own, Slot.exc, tru, asInt, fnD, lstD, unpD, setAll, setPar, slotOf, bindT, wipeT, binD, LIM, g0, g1, g3, ev, f_delayed, b_delayed, h1, h2, cmpD]
  by_cases h3 : 9999 < c + x <;> by_cases h4 : 9999 < e + x + y <;> simp [oret, onext, orse, oite, bite, beite, lite, evSs, evS, evs, evi, runF, Fd.env, Env.get, Slot.val, Slot.own, Slot.exc, tru, asInt, fnD, lstD, unpD, setAll, setPar, slotOf, bindT, wipeT, binD, LIM, g0, g1, g3, ev, h3, h4]
theorem u_name (k : Nat) (ds : List D) : F (k + 1) 2 ds = runF (Lk' k) f_is_name ds := rfl
theorem u_report (k : Nat) (ds : List D) : F (k + 1) 13 ds = runF (Lk' k) f_report_of ds := rfl
theorem g2 : P.g 2 = .str [97, 98, 99, 100, 101, 102, 103, 104, 105, 106, 107, 108, 109, 110, 111, 112, 113, 114, 115, 116, 117, 118, 119, 120, 121, 122] := rfl
theorem n_a (k : Nat) : F (k + 1) 2 [.str [97]] = ret (.bl true) := by
  rw [u_name]; simp -implicitDefEqProofs [oret, onext, orse, oite, bite, beite, lite, evSs, evS, evs, evi, runF, Fd.env, Env.get, Slot.val, Slot.own, Slot.exc, tru, asInt, fnD, lstD, unpD, setAll, setPar, slotOf, bindT, wipeT, binD, LIM, g0, g1, g3, ev, f_is_name, b_is_name, isTy, bltD, lenD, cmpD, itD, compM, inD, g2, allD, toBls]
theorem n_ab (k : Nat) : F (k + 1) 2 [.str [97, 98]] = ret (.bl true) := by
  rw [u_name]; simp -implicitDefEqProofs [oret, onext, orse, oite, bite, beite, lite, evSs, evS, evs, evi, runF, Fd.env, Env.get, Slot.val, Slot.own, Slot.exc, tru, asInt, fnD, lstD, unpD, setAll, setPar, slotOf, bindT, wipeT, binD, LIM, g0, g1, g3, ev, f_is_name, b_is_name, isTy, bltD, lenD, cmpD, itD, compM, inD, g2, allD, toBls]
theorem n_non (k : Nat) : F (k + 1) 2 [.non] = ret (.bl false) := by
  rw [u_name]; simp -implicitDefEqProofs [oret, onext, orse, oite, bite, beite, lite, evSs, evS, evs, evi, runF, Fd.env, Env.get, Slot.val, Slot.own, Slot.exc, tru, asInt, fnD, lstD, unpD, setAll, setPar, slotOf, bindT, wipeT, binD, LIM, g0, g1, g3, ev, f_is_name, b_is_name, isTy]
theorem n_e (k : Nat) : F (k + 1) 2 [.str []] = ret (.bl false) := by
  rw [u_name]; simp -implicitDefEqProofs [oret, onext, orse, oite, bite, beite, lite, evSs, evS, evs, evi, runF, Fd.env, Env.get, Slot.val, Slot.own, Slot.exc, tru, asInt, fnD, lstD, unpD, setAll, setPar, slotOf, bindT, wipeT, binD, LIM, g0, g1, g3, ev, f_is_name, b_is_name, isTy, bltD, lenD, cmpD]
theorem n_A (k : Nat) : F (k + 1) 2 [.str [65]] = ret (.bl false) := by
  rw [u_name]; simp -implicitDefEqProofs [oret, onext, orse, oite, bite, beite, lite, evSs, evS, evs, evi, runF, Fd.env, Env.get, Slot.val, Slot.own, Slot.exc, tru, asInt, fnD, lstD, unpD, setAll, setPar, slotOf, bindT, wipeT, binD, LIM, g0, g1, g3, ev, f_is_name, b_is_name, isTy, bltD, lenD, cmpD, itD, compM, inD, g2, allD, toBls]
theorem n_abcd (k : Nat) : F (k + 1) 2 [.str [97, 98, 99, 100]] = ret (.bl false) := by
  rw [u_name]; simp -implicitDefEqProofs [oret, onext, orse, oite, bite, beite, lite, evSs, evS, evs, evi, runF, Fd.env, Env.get, Slot.val, Slot.own, Slot.exc, tru, asInt, fnD, lstD, unpD, setAll, setPar, slotOf, bindT, wipeT, binD, LIM, g0, g1, g3, ev, f_is_name, b_is_name, isTy, bltD, lenD, cmpD]
theorem n_7 (k : Nat) : F (k + 1) 2 [.int 7] = ret (.bl false) := by
  rw [u_name]; simp -implicitDefEqProofs [oret, onext, orse, oite, bite, beite, lite, evSs, evS, evs, evi, runF, Fd.env, Env.get, Slot.val, Slot.own, Slot.exc, tru, asInt, fnD, lstD, unpD, setAll, setPar, slotOf, bindT, wipeT, binD, LIM, g0, g1, g3, ev, f_is_name, b_is_name, isTy]
theorem n_t (k : Nat) : F (k + 1) 2 [.tup [.str [97]]] = ret (.bl false) := by
  rw [u_name]; simp -implicitDefEqProofs [oret, onext, orse, oite, bite, beite, lite, evSs, evS, evs, evi, runF, Fd.env, Env.get, Slot.val, Slot.own, Slot.exc, tru, asInt, fnD, lstD, unpD, setAll, setPar, slotOf, bindT, wipeT, binD, LIM, g0, g1, g3, ev, f_is_name, b_is_name, isTy]
theorem r_name {k : Nat} {n x y : D} (h : F k 2 [n] = ret (.bl false)) : F (k + 1) 13 [n, x, y] = rse 6 := by
  rw [u_report]
  simp only [F] at h
  simp -implicitDefEqProofs [oret, onext, orse, oite, bite, beite, lite, evSs, evS, evs, evi, runF, Fd.env, Env.get, Slot.val, Slot.own, Slot.exc, tru, asInt, fnD, lstD, unpD, setAll, setPar, slotOf, bindT, wipeT, binD, LIM, g0, g1, g3, ev, f_report_of, b_report_of, h]
theorem r_ex {k : Nat} {n x y : D} (h : F (k + 4) 2 [n] = ret (.bl true)) (hx : F (k + 3) 3 [x] = ret (.bl false)) : F (k + 5) 13 [n, x, y] = rse 3 := by
  rw [u_report]
  have h1 := s_check hx
  simp only [F] at h h1
  simp -implicitDefEqProofs [oret, onext, orse, oite, bite, beite, lite, evSs, evS, evs, evi, runF, Fd.env, Env.get, Slot.val, Slot.own, Slot.exc, tru, asInt, fnD, lstD, unpD, setAll, setPar, slotOf, bindT, wipeT, binD, LIM, g0, g1, g3, ev, f_report_of, b_report_of, h, h1]
theorem r_bad {k : Nat} {n y : D} {a b c e : Int} (h : F (k + 4) 2 [n] = ret (.bl true)) (hx : Ex a b c e) (hy : okD y = true) (hb : isTime y = false) : F (k + 5) 13 [n, X4 a b c e, y] = rse 1 := by
  rw [u_report]
  have h1 := hx.check k
  have h2 := s_is_time (k + 2) y hy
  simp only [F] at h h1 h2
  simp -implicitDefEqProofs [oret, onext, orse, oite, bite, beite, lite, evSs, evS, evs, evi, runF, Fd.env, Env.get, Slot.val, Slot.own, Slot.exc, tru, asInt, fnD, lstD, unpD, setAll, setPar, slotOf, bindT, wipeT, binD, LIM, g0, g1, g3, ev, f_report_of, b_report_of, h, h1, h2, hb]
theorem r_now {k : Nat} {n : D} {a b c e y : Int} (h : F (k + 4) 2 [n] = ret (.bl true)) (hx : Ex a b c e) (hb : isTime (.int y) = true) : F (k + 5) 13 [n, X4 a b c e, .int y] = if y < e then rse 1 else if (isTime (.int (y + (c - e))) && isTime (.int (y + (b - a)))) = true then ret (.tup [n, .int (y + (c - e)), .int (y + (b - a))]) else rse 2 := by
  rw [u_report]
  have h1 := hx.check k
  have h2 := s_is_time (k + 2) (.int y) rfl
  have h3 := s_foff (k + 3) a b c e
  have h4 := s_is_time (k + 2) (.int (y + (c - e))) rfl
  have h5 := s_is_time (k + 2) (.int (y + (b - a))) rfl
  simp only [F] at h h1 h2 h3 h4 h5
  simp -implicitDefEqProofs [oret, onext, orse, oite, bite, beite, lite, evSs, evS, evs, evi, runF, Fd.env, Env.get, Slot.val, Slot.own, Slot.exc, tru, asInt, fnD, lstD, unpD, setAll, setPar, slotOf, bindT, wipeT, binD, LIM, g0, g1, g3, ev, f_report_of, b_report_of, h, h1, h2, hb, h3, h4, h5, cmpD, subD, ixN]
  by_cases hlt : y < e
  · simp [oret, onext, orse, oite, bite, beite, lite, evSs, evS, evs, evi, runF, Fd.env, Env.get, Slot.val, Slot.own, Slot.exc, tru, asInt, fnD, lstD, unpD, setAll, setPar, slotOf, bindT, wipeT, binD, LIM, g0, g1, g3, ev, hlt]
  · simp only [hlt, if_false]
    cases isTime (.int (y + (c - e))) <;> cases isTime (.int (y + (b - a))) <;> simp [oret, onext, orse, oite, bite, beite, lite, evSs, evS, evs, evi, runF, Fd.env, Env.get, Slot.val, Slot.own, Slot.exc, tru, asInt, fnD, lstD, unpD, setAll, setPar, slotOf, bindT, wipeT, binD, LIM, g0, g1, g3, ev]
end Lw

end
section
set_option maxHeartbeats 1000000
namespace Lw
open Py
theorem ints_len (lo : Int) : ∀ n, (intsF lo n).length = n := by
  intro n
  induction n generalizing lo with
  | zero => rfl
  | succ n ih => simp [oret, onext, orse, oite, bite, beite, lite, evSs, evS, evs, evi, runF, Fd.env, Env.get, Slot.val, Slot.own, Slot.exc, tru, asInt, fnD, lstD, unpD, setAll, setPar, slotOf, bindT, wipeT, binD, LIM, g0, g1, g3, ev, intsF, ih]
theorem ints_eq (n : Nat) : ∀ lo : Int, intsF lo n = ((List.range n).map fun j : Nat => lo + (j : Int)).map D.int := by
  induction n with
  | zero => intro lo; rfl
  | succ n ih =>
    intro lo
    rw [intsF, ih, List.range_succ_eq_map]
    simp [oret, onext, orse, oite, bite, beite, lite, evSs, evS, evs, evi, runF, Fd.env, Env.get, Slot.val, Slot.own, Slot.exc, tru, asInt, fnD, lstD, unpD, setAll, setPar, slotOf, bindT, wipeT, binD, LIM, g0, g1, g3, ev]
    intro a _
    omega
theorem toInts_map : ∀ ns : List Int, toInts (ns.map D.int) = some ns
  | [] => rfl
  | n :: ns => by simp [oret, onext, orse, oite, bite, beite, lite, evSs, evS, evs, evi, runF, Fd.env, Env.get, Slot.val, Slot.own, Slot.exc, tru, asInt, fnD, lstD, unpD, setAll, setPar, slotOf, bindT, wipeT, binD, LIM, g0, g1, g3, ev, toInts, toInts_map ns]
def down (v x : Int) (n : Nat) : List Int := (List.range n).map fun j : Nat => v - (x + (j : Int))
theorem down_sorted (v x : Int) (n : Nat) : sortInts (down v x n) = (List.range n).map fun j : Nat => (v - x - n + 1) + (j : Int) := by
  symm
  refine PyS.sortInts_eq ?_ ?_
  · have : down v x n = ((List.range n).map fun j : Nat => (v - x - n + 1) + (j : Int)).reverse := by
      refine List.ext_getElem (by simp [oret, onext, orse, oite, bite, beite, lite, evSs, evS, evs, evi, runF, Fd.env, Env.get, Slot.val, Slot.own, Slot.exc, tru, asInt, fnD, lstD, unpD, setAll, setPar, slotOf, bindT, wipeT, binD, LIM, g0, g1, g3, ev, down]) fun i h1 h2 => ?_
      simp [oret, onext, orse, oite, bite, beite, lite, evSs, evS, evs, evi, runF, Fd.env, Env.get, Slot.val, Slot.own, Slot.exc, tru, asInt, fnD, lstD, unpD, setAll, setPar, slotOf, bindT, wipeT, binD, LIM, g0, g1, g3, ev, down] at h1 h2 ⊢
      omega
    rw [this]
    exact (List.reverse_perm _).symm
  · rw [List.pairwise_map]
    exact List.pairwise_lt_range.imp fun h => by omega
theorem u_offs (k : Nat) (ds : List D) : F (k + 1) 17 ds = runF (Lk' k) f__law_offsets ds := rfl
theorem down_step (L : Lk) (s0 s1 s2 s3 s6 s7 s8 s9 : Slot) {a b : Int} (h6 : s6 = .v (.int a)) (h7 : s7 = .v (.int b)) : ∀ (n : Nat) (x : Int) (acc : List D) (s5 : Slot), acc.length + n ≤ 16777216 →
    ∃ s5', forS (intsF x n) (fun r d => bndE r (lif (bindT r (.nm 5) d)) fun r => evSs L (.cons (.app 4 (.bin .sub (.bin .sub (.var 7) (.var 6)) (.var 5))) .nil) r) [s0, s1, s2, s3, .o acc, s5, s6, s7, s8, s9] = nextS [s0, s1, s2, s3, .o (acc ++ (down (b - a) x n).map .int), s5', s6, s7, s8, s9]
  | 0, x, acc, s5, hn => ⟨s5, by simp [oret, onext, orse, oite, bite, beite, lite, evSs, evS, evs, evi, runF, Fd.env, Env.get, Slot.val, Slot.own, Slot.exc, tru, asInt, fnD, lstD, unpD, setAll, setPar, slotOf, bindT, wipeT, binD, LIM, g0, g1, g3, ev, intsF, forS, down]⟩
  | n + 1, x, acc, s5, hn => by
    subst h6 h7
    obtain ⟨s5', e⟩ := down_step L s0 s1 s2 s3 (.v (.int a)) (.v (.int b)) s8 s9 rfl rfl n (x + 1) (acc ++ [.int (b - a - x)]) (.v (.int x)) (by simp [oret, onext, orse, oite, bite, beite, lite, evSs, evS, evs, evi, runF, Fd.env, Env.get, Slot.val, Slot.own, Slot.exc, tru, asInt, fnD, lstD, unpD, setAll, setPar, slotOf, bindT, wipeT, binD, LIM, g0, g1, g3, ev]; omega)
    refine ⟨s5', ?_⟩
    have hd : down (b - a) x (n + 1) = (b - a - x) :: down (b - a) (x + 1) n := by
      unfold down
      rw [List.range_succ_eq_map]
      simp [oret, onext, orse, oite, bite, beite, lite, evSs, evS, evs, evi, runF, Fd.env, Env.get, Slot.val, Slot.own, Slot.exc, tru, asInt, fnD, lstD, unpD, setAll, setPar, slotOf, bindT, wipeT, binD, LIM, g0, g1, g3, ev]
      intro j _
      omega
    have hl : acc.length < 16777216 := by omega
    rw [intsF, forS, hd]
    simp only [List.map_cons]
    have e2 : acc ++ D.int (b - a - x) :: (down (b - a) (x + 1) n).map D.int = (acc ++ [D.int (b - a - x)]) ++ (down (b - a) (x + 1) n).map D.int := by simp [oret, onext, orse, oite, bite, beite, lite, evSs, evS, evs, evi, runF, Fd.env, Env.get, Slot.val, Slot.own, Slot.exc, tru, asInt, fnD, lstD, unpD, setAll, setPar, slotOf, bindT, wipeT, binD, LIM, g0, g1, g3, ev]
    rw [e2, ← e]
    simp -implicitDefEqProofs [oret, onext, orse, oite, bite, beite, lite, evSs, evS, evs, evi, runF, Fd.env, Env.get, Slot.val, Slot.own, Slot.exc, tru, asInt, fnD, lstD, unpD, setAll, setPar, slotOf, bindT, wipeT, binD, LIM, g0, g1, g3, ev, hl]
theorem offs_body (L : Lk) {a b c e x y : Int} (hr : rngOk x (e - a - (c - b) - y + 1) = true) : runF L f__law_offsets [X4 a b c e, .int x, .int y] = ret (.lst (intsF (c - e + y) (e - a - (c - b) - y + 1 - x).toNat)) := by
  have hn : (e - a - (c - b) - y + 1 - x).toNat ≤ 16777216 := by
    have := PyS.rng_bounds hr
    omega
  obtain ⟨s5', e1⟩ := down_step L (.v (X4 a b c e)) (.v (.int x)) (.v (.int y)) (.v (.int (e - a - (c - b)))) (.v (.int a)) (.v (.int b)) (.v (.int c)) (.v (.int e)) rfl rfl (e - a - (c - b) - y + 1 - x).toNat x [] .none (by simpa using hn)
  simp only [List.nil_append] at e1
  have e3 : sortedID [.lst ((down (b - a) x (e - a - (c - b) - y + 1 - x).toNat).map D.int)] = some (.lst (intsF (c - e + y) (e - a - (c - b) - y + 1 - x).toNat)) := by
    simp only [sortedID, toInts_map, Option.map_some, down_sorted, ints_eq]
    congr 2
    by_cases h : 0 ≤ e - a - (c - b) - y + 1 - x
    · simp only [List.map_map]
      refine List.map_congr_left fun j _ => ?_
      simp [oret, onext, orse, oite, bite, beite, lite, evSs, evS, evs, evi, runF, Fd.env, Env.get, Slot.val, Slot.own, Slot.exc, tru, asInt, fnD, lstD, unpD, setAll, setPar, slotOf, bindT, wipeT, binD, LIM, g0, g1, g3, ev]
      omega
    · have : (e - a - (c - b) - y + 1 - x).toNat = 0 := by omega
      rw [this]; rfl
  have e4 : rngD x (e - a - (c - b) - y + 1) = some (intsF x (e - a - (c - b) - y + 1 - x).toNat) := by
    unfold rngD; rw [if_pos hr]
  have hb : f__law_offsets.body = .cons (.unp [6, 7, 8, 9] (.var 0)) (.cons (.asg 3 (.bin .sub (.bin .sub (.var 9) (.var 6)) (.bin .sub (.var 8) (.var 7)))) (.cons (.own 4 (.lst .nil)) (.cons (.fo (.nm 5) (.rng2 (.var 1) (.bin .add (.bin .sub (.var 3) (.var 2)) (.cst (.int 1)))) (.cons (.app 4 (.bin .sub (.bin .sub (.var 7) (.var 6)) (.var 5))) .nil)) (.cons (.retE (.blt .sortedI (.cons (.peek 4) .nil))) .nil)))) := rfl
  have e5 : evSs L f__law_offsets.body [.v (X4 a b c e), .v (.int x), .v (.int y), .none, .none, .none, .none, .none, .none, .none] = retS (.lst (intsF (c - e + y) (e - a - (c - b) - y + 1 - x).toNat)) := by
    rw [hb]
    rw [evSs.eq_2]
    have s1 : evS L (.unp [6, 7, 8, 9] (.var 0)) [.v (X4 a b c e), .v (.int x), .v (.int y), .none, .none, .none, .none, .none, .none, .none] = nextS [.v (X4 a b c e), .v (.int x), .v (.int y), .none, .none, .none, .v (.int a), .v (.int b), .v (.int c), .v (.int e)] := by simp -implicitDefEqProofs [oret, onext, orse, oite, bite, beite, lite, evSs, evS, evs, evi, runF, Fd.env, Env.get, Slot.val, Slot.own, Slot.exc, tru, asInt, fnD, lstD, unpD, setAll, setPar, slotOf, bindT, wipeT, binD, LIM, g0, g1, g3, ev]
    rw [s1, seqS_next, evSs.eq_2]
    have s2 : evS L (.asg 3 (.bin .sub (.bin .sub (.var 9) (.var 6)) (.bin .sub (.var 8) (.var 7)))) [.v (X4 a b c e), .v (.int x), .v (.int y), .none, .none, .none, .v (.int a), .v (.int b), .v (.int c), .v (.int e)] = nextS [.v (X4 a b c e), .v (.int x), .v (.int y), .v (.int (e - a - (c - b))), .none, .none, .v (.int a), .v (.int b), .v (.int c), .v (.int e)] := by simp -implicitDefEqProofs [oret, onext, orse, oite, bite, beite, lite, evSs, evS, evs, evi, runF, Fd.env, Env.get, Slot.val, Slot.own, Slot.exc, tru, asInt, fnD, lstD, unpD, setAll, setPar, slotOf, bindT, wipeT, binD, LIM, g0, g1, g3, ev]
    rw [s2, seqS_next, evSs.eq_2]
    have s3 : evS L (.own 4 (.lst .nil)) [.v (X4 a b c e), .v (.int x), .v (.int y), .v (.int (e - a - (c - b))), .none, .none, .v (.int a), .v (.int b), .v (.int c), .v (.int e)] = nextS [.v (X4 a b c e), .v (.int x), .v (.int y), .v (.int (e - a - (c - b))), .o [], .none, .v (.int a), .v (.int b), .v (.int c), .v (.int e)] := by simp -implicitDefEqProofs [oret, onext, orse, oite, bite, beite, lite, evSs, evS, evs, evi, runF, Fd.env, Env.get, Slot.val, Slot.own, Slot.exc, tru, asInt, fnD, lstD, unpD, setAll, setPar, slotOf, bindT, wipeT, binD, LIM, g0, g1, g3, ev]
    rw [s3, seqS_next, evSs.eq_2]
    have s4 : evS L (.fo (.nm 5) (.rng2 (.var 1) (.bin .add (.bin .sub (.var 3) (.var 2)) (.cst (.int 1)))) (.cons (.app 4 (.bin .sub (.bin .sub (.var 7) (.var 6)) (.var 5))) .nil)) [.v (X4 a b c e), .v (.int x), .v (.int y), .v (.int (e - a - (c - b))), .o [], .none, .v (.int a), .v (.int b), .v (.int c), .v (.int e)] = nextS [.v (X4 a b c e), .v (.int x), .v (.int y), .v (.int (e - a - (c - b))), .o ((down (b - a) x (e - a - (c - b) - y + 1 - x).toNat).map .int), s5', .v (.int a), .v (.int b), .v (.int c), .v (.int e)] := by
      rw [← e1, evS.eq_13]
      have q : evi L (.rng2 (.var 1) (.bin .add (.bin .sub (.var 3) (.var 2)) (.cst (.int 1)))) [.v (X4 a b c e), .v (.int x), .v (.int y), .v (.int (e - a - (c - b))), .o [], .none, .v (.int a), .v (.int b), .v (.int c), .v (.int e)] = ret (intsF x (e - a - (c - b) - y + 1 - x).toNat) := by
        simp -implicitDefEqProofs [oret, onext, orse, oite, bite, beite, lite, evSs, evS, evs, evi, runF, Fd.env, Env.get, Slot.val, Slot.own, Slot.exc, tru, asInt, fnD, lstD, unpD, setAll, setPar, slotOf, bindT, wipeT, binD, LIM, g0, g1, g3, ev, e4]
      rw [q, bndE_ret]
    rw [s4, seqS_next, evSs.eq_2]
    have s5 : evS L (.retE (.blt .sortedI (.cons (.peek 4) .nil))) [.v (X4 a b c e), .v (.int x), .v (.int y), .v (.int (e - a - (c - b))), .o ((down (b - a) x (e - a - (c - b) - y + 1 - x).toNat).map .int), s5', .v (.int a), .v (.int b), .v (.int c), .v (.int e)] = retS (.lst (intsF (c - e + y) (e - a - (c - b) - y + 1 - x).toNat)) := by
      simp -implicitDefEqProofs [oret, onext, orse, oite, bite, beite, lite, evSs, evS, evs, evi, runF, Fd.env, Env.get, Slot.val, Slot.own, Slot.exc, tru, asInt, fnD, lstD, unpD, setAll, setPar, slotOf, bindT, wipeT, binD, LIM, g0, g1, g3, ev, bltD, e3]
    rw [s5]
    rfl
  show outM (evSs L f__law_offsets.body [.v (X4 a b c e), .v (.int x), .v (.int y), .none, .none, .none, .none, .none, .none, .none]) = _
  rw [e5]
  rfl
theorem s_offs (k : Nat) {a b c e x y : Int} (hr : rngOk x (e - a - (c - b) - y + 1) = true) : F (k + 1) 17 [X4 a b c e, .int x, .int y] = ret (.lst (intsF (c - e + y) (e - a - (c - b) - y + 1 - x).toNat)) := by
  rw [u_offs]
  exact offs_body _ hr
end Lw

end
section
set_option maxHeartbeats 1000000
namespace Lw
open Py
theorem u_common (k : Nat) (ds : List D) : F (k + 1) 11 ds = runF (Lk' k) f_common_offsets ds := rfl
/-! ### common_offsets, refused -/
theorem co_nolist {k : Nat} {d : D} (h : isTy .list d = some false) : F (k + 1) 11 [d] = rse 4 := by
  rw [u_common]
  simp -implicitDefEqProofs [oret, onext, orse, oite, bite, beite, lite, evSs, evS, evs, evi, runF, Fd.env, Env.get, Slot.val, Slot.own, Slot.exc, tru, asInt, fnD, lstD, unpD, setAll, setPar, slotOf, bindT, wipeT, binD, LIM, g0, g1, g3, ev, f_common_offsets, b_common_offsets, h]
theorem co_empty {k : Nat} : F (k + 1) 11 [.lst []] = rse 4 := by
  rw [u_common]
  simp -implicitDefEqProofs [oret, onext, orse, oite, bite, beite, lite, evSs, evS, evs, evi, runF, Fd.env, Env.get, Slot.val, Slot.own, Slot.exc, tru, asInt, fnD, lstD, unpD, setAll, setPar, slotOf, bindT, wipeT, binD, LIM, g0, g1, g3, ev, f_common_offsets, b_common_offsets, isTy, bltD, lenD, cmpD]
theorem co_many {k : Nat} {xs : List D} (h : 10 < xs.length) : F (k + 1) 11 [.lst xs] = rse 4 := by
  rw [u_common]
  have h1 : (1 : Int) ≤ xs.length := by omega
  have h2 : ¬ ((xs.length : Int) ≤ 10) := by omega
  simp -implicitDefEqProofs [oret, onext, orse, oite, bite, beite, lite, evSs, evS, evs, evi, runF, Fd.env, Env.get, Slot.val, Slot.own, Slot.exc, tru, asInt, fnD, lstD, unpD, setAll, setPar, slotOf, bindT, wipeT, binD, LIM, g0, g1, g3, ev, f_common_offsets, b_common_offsets, isTy, bltD, lenD, cmpD, h1, h2]
theorem co_bad (L : Lk) {x y : D} {by' : Bool} (hx : L.φ 3 [x] = ret (.bl true)) (hy : L.φ 3 [y] = ret (.bl false)) (hg : L.g 3 = .int 10) : runF L f_common_offsets [.lst [x, y]] = rse 4 := by
  simp -implicitDefEqProofs [oret, onext, orse, oite, bite, beite, lite, evSs, evS, evs, evi, runF, Fd.env, Env.get, Slot.val, Slot.own, Slot.exc, tru, asInt, fnD, lstD, unpD, setAll, setPar, slotOf, bindT, wipeT, binD, LIM, g0, g1, g3, ev, f_common_offsets, b_common_offsets, isTy, bltD, lenD, cmpD, itD, compM, hx, hy, allD, toBls, hg]
abbrev P2 (p q : Int) : D := .tup [.int p, .int q]
def resD (p q : Int) : D := if p ≤ q then P2 p q else .non
theorem co1 (L : Lk) {x : D} {p q : Int} (hg : L.g 3 = .int 10) (h1 : L.φ 3 [x] = ret (.bl true)) (f1 : L.φ 6 [x] = ret (P2 p q)) : runF L f_common_offsets [.lst [x]] = ret (resD p q) := by
  simp -implicitDefEqProofs [oret, onext, orse, oite, bite, beite, lite, evSs, evS, evs, evi, runF, Fd.env, Env.get, Slot.val, Slot.own, Slot.exc, tru, asInt, fnD, lstD, unpD, setAll, setPar, slotOf, bindT, wipeT, binD, LIM, g0, g1, g3, ev, f_common_offsets, b_common_offsets, isTy, bltD, lenD, cmpD, itD, compM, h1, allD, toBls, hg, f1, max1ID, min1ID, toInts, resD, List.max?, List.min?]
  by_cases h : p ≤ q <;> simp [oret, onext, orse, oite, bite, beite, lite, evSs, evS, evs, evi, runF, Fd.env, Env.get, Slot.val, Slot.own, Slot.exc, tru, asInt, fnD, lstD, unpD, setAll, setPar, slotOf, bindT, wipeT, binD, LIM, g0, g1, g3, ev, h]
theorem co2 (L : Lk) {x y : D} {p q p' q' : Int} (hg : L.g 3 = .int 10) (h1 : L.φ 3 [x] = ret (.bl true)) (f1 : L.φ 6 [x] = ret (P2 p q)) (h2 : L.φ 3 [y] = ret (.bl true)) (f2 : L.φ 6 [y] = ret (P2 p' q')) : runF L f_common_offsets [.lst [x, y]] = ret (resD (max p p') (min q q')) := by
  simp -implicitDefEqProofs [oret, onext, orse, oite, bite, beite, lite, evSs, evS, evs, evi, runF, Fd.env, Env.get, Slot.val, Slot.own, Slot.exc, tru, asInt, fnD, lstD, unpD, setAll, setPar, slotOf, bindT, wipeT, binD, LIM, g0, g1, g3, ev, f_common_offsets, b_common_offsets, isTy, bltD, lenD, cmpD, itD, compM, h1, h2, allD, toBls, hg, f1, f2, max1ID, min1ID, toInts, resD, List.max?, List.min?]
  (repeat' split) <;> first | rfl | (exfalso; omega)
theorem co3 (L : Lk) {x y z : D} {p q p' q' p'' q'' : Int} (hg : L.g 3 = .int 10) (h1 : L.φ 3 [x] = ret (.bl true)) (f1 : L.φ 6 [x] = ret (P2 p q)) (h2 : L.φ 3 [y] = ret (.bl true)) (f2 : L.φ 6 [y] = ret (P2 p' q')) (h3 : L.φ 3 [z] = ret (.bl true)) (f3 : L.φ 6 [z] = ret (P2 p'' q'')) :
    runF L f_common_offsets [.lst [x, y, z]] = ret (resD (max (max p p') p'') (min (min q q') q'')) := by
  simp -implicitDefEqProofs [oret, onext, orse, oite, bite, beite, lite, evSs, evS, evs, evi, runF, Fd.env, Env.get, Slot.val, Slot.own, Slot.exc, tru, asInt, fnD, lstD, unpD, setAll, setPar, slotOf, bindT, wipeT, binD, LIM, g0, g1, g3, ev, f_common_offsets, b_common_offsets, isTy, bltD, lenD, cmpD, itD, compM, h1, h2, h3, allD, toBls, hg, f1, f2, f3, max1ID, min1ID, toInts, resD, List.max?, List.min?]
  (repeat' split) <;> first | rfl | (exfalso; omega)
theorem co10 (L : Lk) {x : D} {p q : Int} (hg : L.g 3 = .int 10) (h1 : L.φ 3 [x] = ret (.bl true)) (f1 : L.φ 6 [x] = ret (P2 p q)) : ∃ d, runF L f_common_offsets [.lst [x, x, x, x, x, x, x, x, x, x]] = ret d := by
  refine ⟨resD p q, ?_⟩
  simp -implicitDefEqProofs [oret, onext, orse, oite, bite, beite, lite, evSs, evS, evs, evi, runF, Fd.env, Env.get, Slot.val, Slot.own, Slot.exc, tru, asInt, fnD, lstD, unpD, setAll, setPar, slotOf, bindT, wipeT, binD, LIM, g0, g1, g3, ev, f_common_offsets, b_common_offsets, isTy, bltD, lenD, cmpD, itD, compM, h1, allD, toBls, hg, f1, max1ID, min1ID, toInts, resD, List.max?, List.min?]
  by_cases h : p ≤ q <;> simp [oret, onext, orse, oite, bite, beite, lite, evSs, evS, evs, evi, runF, Fd.env, Env.get, Slot.val, Slot.own, Slot.exc, tru, asInt, fnD, lstD, unpD, setAll, setPar, slotOf, bindT, wipeT, binD, LIM, g0, g1, g3, ev, h]

/-! ### intervals -/
theorem intsF_nil {lo : Int} {n : Nat} : intsF lo n = [] ↔ n = 0 := by
  cases n <;> simp [oret, onext, orse, oite, bite, beite, lite, evSs, evS, evs, evi, runF, Fd.env, Env.get, Slot.val, Slot.own, Slot.exc, tru, asInt, fnD, lstD, unpD, setAll, setPar, slotOf, bindT, wipeT, binD, LIM, g0, g1, g3, ev, intsF]
theorem first_of {lo : Int} {n : Nat} (h : 0 < n) : subD (.lst (intsF lo n)) (.int 0) = some (.int lo) := by
  cases n with
  | zero => omega
  | succ n => simp [oret, onext, orse, oite, bite, beite, lite, evSs, evS, evs, evi, runF, Fd.env, Env.get, Slot.val, Slot.own, Slot.exc, tru, asInt, fnD, lstD, unpD, setAll, setPar, slotOf, bindT, wipeT, binD, LIM, g0, g1, g3, ev, subD, ixN, intsF]
theorem intsF_get {n : Nat} : ∀ {lo : Int} {j : Nat}, j < n → (intsF lo n)[j]? = some (.int (lo + j)) := by
  intro lo j h
  rw [ints_eq]
  simp [oret, onext, orse, oite, bite, beite, lite, evSs, evS, evs, evi, runF, Fd.env, Env.get, Slot.val, Slot.own, Slot.exc, tru, asInt, fnD, lstD, unpD, setAll, setPar, slotOf, bindT, wipeT, binD, LIM, g0, g1, g3, ev, h]
theorem last_of {lo : Int} {n : Nat} (h : 0 < n) : subD (.lst (intsF lo n)) (.int (-1)) = some (.int (lo + n - 1)) := by
  have e : ixN n (-1) = some (n - 1) := by
    unfold ixN
    rw [if_neg (by omega), if_pos (by omega)]
    congr 1
    omega
  simp only [subD, ints_len, e, Option.bind_some]
  rw [intsF_get (by omega)]
  congr 2
  omega
theorem shp_ints (lo : Int) (n : Nat) (k : Nat) : (intsF lo n).all (shp k) = true := by
  rw [ints_eq, List.all_eq_true]
  intro x hx
  obtain ⟨i, _, rfl⟩ := List.mem_map.mp hx
  cases k <;> rfl
theorem mem_ints {lo : Int} {n : Nat} {i : Int} : (intsF lo n).any (fun y => eqD y (.int i)) = (decide (lo ≤ i) && decide (i < lo + n)) := by
  induction n generalizing lo with
  | zero => simp [oret, onext, orse, oite, bite, beite, lite, evSs, evS, evs, evi, runF, Fd.env, Env.get, Slot.val, Slot.own, Slot.exc, tru, asInt, fnD, lstD, unpD, setAll, setPar, slotOf, bindT, wipeT, binD, LIM, g0, g1, g3, ev, intsF]
  | succ n ih =>
    simp only [intsF, List.any_cons, ih, eqD]
    by_cases h : lo = i
    · subst h
      simp [oret, onext, orse, oite, bite, beite, lite, evSs, evS, evs, evi, runF, Fd.env, Env.get, Slot.val, Slot.own, Slot.exc, tru, asInt, fnD, lstD, unpD, setAll, setPar, slotOf, bindT, wipeT, binD, LIM, g0, g1, g3, ev]
      omega
    · have : (lo == i) = false := by simp [oret, onext, orse, oite, bite, beite, lite, evSs, evS, evs, evi, runF, Fd.env, Env.get, Slot.val, Slot.own, Slot.exc, tru, asInt, fnD, lstD, unpD, setAll, setPar, slotOf, bindT, wipeT, binD, LIM, g0, g1, g3, ev, h]
      rw [this, Bool.false_or]
      congr 1
      · simp [oret, onext, orse, oite, bite, beite, lite, evSs, evS, evs, evi, runF, Fd.env, Env.get, Slot.val, Slot.own, Slot.exc, tru, asInt, fnD, lstD, unpD, setAll, setPar, slotOf, bindT, wipeT, binD, LIM, g0, g1, g3, ev]; omega
      · simp [oret, onext, orse, oite, bite, beite, lite, evSs, evS, evs, evi, runF, Fd.env, Env.get, Slot.val, Slot.own, Slot.exc, tru, asInt, fnD, lstD, unpD, setAll, setPar, slotOf, bindT, wipeT, binD, LIM, g0, g1, g3, ev]; omega
theorem filt (l u : Int) : ∀ (n : Nat) (lo : Int), compM (intsF lo n) (fun x => ret (match x with | .int i => if (decide (l ≤ i) && decide (i < u)) = true then some (.int i) else none | _ => none)) = ret (intsF (max lo l) (min (lo + n) u - max lo l).toNat)
  | 0, lo => by
    have : (min (lo + (0 : Nat)) u - max lo l).toNat = 0 := by omega
    rw [this]
    rfl
  | n + 1, lo => by
    simp only [intsF, compM, bnd_ret]
    rw [filt l u n (lo + 1)]
    simp only [bnd_ret]
    by_cases h1 : l ≤ lo
    · by_cases h2 : lo < u
      · have e1 : (min (lo + (n + 1 : Nat)) u - max lo l).toNat = (min (lo + 1 + n) u - max (lo + 1) l).toNat + 1 := by omega
        have e2 : max lo l = lo := by omega
        have e3 : max (lo + 1) l = lo + 1 := by omega
        rw [e1, e2, e3]
        simp [oret, onext, orse, oite, bite, beite, lite, evSs, evS, evs, evi, runF, Fd.env, Env.get, Slot.val, Slot.own, Slot.exc, tru, asInt, fnD, lstD, unpD, setAll, setPar, slotOf, bindT, wipeT, binD, LIM, g0, g1, g3, ev, h1, h2, intsF]
      · have e1 : (min (lo + (n + 1 : Nat)) u - max lo l).toNat = 0 := by omega
        have e2 : (min (lo + 1 + n) u - max (lo + 1) l).toNat = 0 := by omega
        rw [e1, e2]
        simp [oret, onext, orse, oite, bite, beite, lite, evSs, evS, evs, evi, runF, Fd.env, Env.get, Slot.val, Slot.own, Slot.exc, tru, asInt, fnD, lstD, unpD, setAll, setPar, slotOf, bindT, wipeT, binD, LIM, g0, g1, g3, ev, h1, h2, intsF]
    · have e1 : (min (lo + (n + 1 : Nat)) u - max lo l).toNat = (min (lo + 1 + n) u - max (lo + 1) l).toNat := by omega
      have e2 : max lo l = l := by omega
      have e3 : max (lo + 1) l = l := by omega
      rw [e1, e2, e3]
      simp [oret, onext, orse, oite, bite, beite, lite, evSs, evS, evs, evi, runF, Fd.env, Env.get, Slot.val, Slot.own, Slot.exc, tru, asInt, fnD, lstD, unpD, setAll, setPar, slotOf, bindT, wipeT, binD, LIM, g0, g1, g3, ev, h1]
end Lw

end
section
set_option maxHeartbeats 1000000
namespace Lw
open Py
theorem u_rej (k : Nat) (ds : List D) : F (k + 1) 18 ds = runF (Lk' k) f__law_rejected ds := rfl
def odds (a b c e : Int) : List D := [.non, .tup [], .tup [.int a, .int b, .int c], .lst [.int a, .int b, .int c, .int e], X4 a b (b - 1) e, X4 (e + 1) b c e, .tup [.bl true, .int b, .int c, .int e], X4 a b (c + 99) e, X4 10000 b c e]
def bads : List D := [.int (-1), .int 10000, .non, .bl true, .str [49]]
def lists (x o : D) : List D := [.non, .lst [], .tup [x], .lst [x, x, x, x, x, x, x, x, x, x, x], .lst [x, .non], .lst [x, o]]
def names : List D := [.non, .str [], .str [65], .str [97, 98, 99, 100], .int 7, .tup [.str [97]]]
theorem odd_no {a b c e : Int} (h : Dr a b c e) (k : Nat) : ∀ d ∈ odds a b c e, F (k + 3) 3 [d] = ret (.bl false) := by
  intro d hd
  obtain ⟨h1, h2, h3, h4, h5, h6, h7, h8, h9⟩ := h
  simp only [odds, List.mem_cons, List.not_mem_nil, or_false] at hd
  have f4 : ∀ a b c e : D, exB (.tup [a, b, c, e]) = false → okD a = true → okD b = true → okD c = true → okD e = true → F (k + 3) 3 [.tup [a, b, c, e]] = ret (.bl false) := fun a b c e hx ha hb hc he => by rw [s_ex4 k _ _ _ _ ha hb hc he, hx]
  rcases hd with rfl | rfl | rfl | rfl | rfl | rfl | rfl | rfl | rfl
  · exact s_exNo k _ rfl
  · exact s_exNo k _ rfl
  · exact s_exNo k _ rfl
  · exact s_exNo k _ rfl
  · refine f4 _ _ _ _ ?_ rfl rfl rfl rfl
    have : ¬ b ≤ b - 1 := by omega
    simp [oret, onext, orse, oite, bite, beite, lite, evSs, evS, evs, evi, runF, Fd.env, Env.get, Slot.val, Slot.own, Slot.exc, tru, asInt, fnD, lstD, unpD, setAll, setPar, slotOf, bindT, wipeT, binD, LIM, g0, g1, g3, ev, exB, this]
  · refine f4 _ _ _ _ ?_ rfl rfl rfl rfl
    have : ¬ e + 1 ≤ e := by omega
    simp [oret, onext, orse, oite, bite, beite, lite, evSs, evS, evs, evi, runF, Fd.env, Env.get, Slot.val, Slot.own, Slot.exc, tru, asInt, fnD, lstD, unpD, setAll, setPar, slotOf, bindT, wipeT, binD, LIM, g0, g1, g3, ev, exB, this]
  · exact f4 _ _ _ _ rfl rfl rfl rfl rfl
  · refine f4 _ _ _ _ ?_ rfl rfl rfl rfl
    have : ¬ c + 99 - b ≤ e - a := by omega
    simp [oret, onext, orse, oite, bite, beite, lite, evSs, evS, evs, evi, runF, Fd.env, Env.get, Slot.val, Slot.own, Slot.exc, tru, asInt, fnD, lstD, unpD, setAll, setPar, slotOf, bindT, wipeT, binD, LIM, g0, g1, g3, ev, exB, this]
  · refine f4 _ _ _ _ ?_ rfl rfl rfl rfl
    simp [oret, onext, orse, oite, bite, beite, lite, evSs, evS, evs, evi, runF, Fd.env, Env.get, Slot.val, Slot.own, Slot.exc, tru, asInt, fnD, lstD, unpD, setAll, setPar, slotOf, bindT, wipeT, binD, LIM, g0, g1, g3, ev, exB, isTime]
theorem bad_no : ∀ d ∈ bads, okD d = true ∧ isTime d = false := by
  intro d hd
  simp only [bads, List.mem_cons, List.not_mem_nil, or_false] at hd
  rcases hd with rfl | rfl | rfl | rfl | rfl <;> exact ⟨rfl, rfl⟩
theorem name_no (k : Nat) : ∀ d ∈ names, F (k + 1) 2 [d] = ret (.bl false) := by
  intro d hd
  simp only [names, List.mem_cons, List.not_mem_nil, or_false] at hd
  rcases hd with rfl | rfl | rfl | rfl | rfl | rfl
  · exact n_non k
  · exact n_e k
  · exact n_A k
  · exact n_abcd k
  · exact n_7 k
  · exact n_t k
theorem list_no {a b c e : Int} (h : Dr a b c e) {o : D} (ho : o ∈ odds a b c e) (k : Nat) : ∀ d ∈ lists (X4 a b c e) o, F (k + 4) 11 [d] = rse 4 := by
  intro d hd
  simp only [lists, List.mem_cons, List.not_mem_nil, or_false] at hd
  rcases hd with rfl | rfl | rfl | rfl | rfl | rfl
  · exact co_nolist rfl
  · exact co_empty
  · exact co_nolist rfl
  · exact co_many (by simp [oret, onext, orse, oite, bite, beite, lite, evSs, evS, evs, evi, runF, Fd.env, Env.get, Slot.val, Slot.own, Slot.exc, tru, asInt, fnD, lstD, unpD, setAll, setPar, slotOf, bindT, wipeT, binD, LIM, g0, g1, g3, ev])
  · rw [u_common]
    exact co_bad (Lk' (k + 3)) (by' := true) (h.ex.is k) (s_exNo k .non rfl) rfl
  · rw [u_common]
    exact co_bad (Lk' (k + 3)) (by' := true) (h.ex.is k) (odd_no h k o ho) rfl
theorem pick {xs : List D} {v : Int} (h0 : 0 ≤ v) (h1 : v < xs.length) : ∃ d, d ∈ xs ∧ subD (.lst xs) (.int v) = some d := by
  have h2 : v.toNat < xs.length := by omega
  exact ⟨xs[v.toNat], List.getElem_mem h2, by simp [oret, onext, orse, oite, bite, beite, lite, evSs, evS, evs, evi, runF, Fd.env, Env.get, Slot.val, Slot.own, Slot.exc, tru, asInt, fnD, lstD, unpD, setAll, setPar, slotOf, bindT, wipeT, binD, LIM, g0, g1, g3, ev, subD, ixN, h0, h1, h2]⟩
def drp : Ss → Nat → Ss
  | s, 0 => s
  | .cons _ r, n + 1 => drp r n
  | .nil, _ => .nil
def nth : Ss → Nat → S
  | .cons s _, 0 => s
  | .cons _ r, n + 1 => nth r n
  | .nil, _ => .retN
def ln : Ss → Nat
  | .nil => 0
  | .cons _ r => ln r + 1
theorem drp_cons : ∀ (B : Ss) (n : Nat), n < ln B → drp B n = .cons (nth B n) (drp B (n + 1))
  | .nil, n, h => absurd h (by simp [oret, onext, orse, oite, bite, beite, lite, evSs, evS, evs, evi, runF, Fd.env, Env.get, Slot.val, Slot.own, Slot.exc, tru, asInt, fnD, lstD, unpD, setAll, setPar, slotOf, bindT, wipeT, binD, LIM, g0, g1, g3, ev, ln])
  | .cons s r, 0, h => by cases r <;> rfl
  | .cons s r, n + 1, h => by
    have := drp_cons r n (by simp [oret, onext, orse, oite, bite, beite, lite, evSs, evS, evs, evi, runF, Fd.env, Env.get, Slot.val, Slot.own, Slot.exc, tru, asInt, fnD, lstD, unpD, setAll, setPar, slotOf, bindT, wipeT, binD, LIM, g0, g1, g3, ev, ln] at h; omega)
    show drp r n = .cons (nth r n) (drp r (n + 1))
    exact this
theorem stp {L : Lk} {B : Ss} {n : Nat} {σ σ' : Env} {res : SM} (hn : n < ln B) (h : evS L (nth B n) σ = nextS σ') (h2 : evSs L (drp B (n + 1)) σ' = res) : evSs L (drp B n) σ = res := by
  rw [drp_cons B n hn, evSs.eq_2, h, seqS_next, h2]
theorem stpR {L : Lk} {B : Ss} {n : Nat} {σ : Env} {d : D} (hn : n < ln B) (h : evS L (nth B n) σ = retS d) : evSs L (drp B n) σ = retS d := by
  rw [drp_cons B n hn, evSs.eq_2, h, seqS_ret]
theorem rej_body (L : Lk) {xs od bd ld nd : D} {a b c e o1 o2 o3 o4 : Int} (d1 : L.φ 14 [xs, .int 50, .int 9] = ret (.int o1)) (d2 : L.φ 14 [xs, .int 51, .int 5] = ret (.int o2)) (d3 : L.φ 14 [xs, .int 52, .int 6] = ret (.int o3)) (d4 : L.φ 14 [xs, .int 53, .int 6] = ret (.int o4))
    (p1 : subD (.lst (odds a b c e)) (.int o1) = some od) (p2 : subD (.lst bads) (.int o2) = some bd) (p3 : subD (.lst (lists (X4 a b c e) od)) (.int o3) = some ld) (p4 : subD (.lst names) (.int o4) = some nd)
    (e1 : L.φ 16 [.int 0, od, .int 0, .int 0] = ret (.int 0)) (e2 : L.φ 16 [.int 1, od, .int 0, .int 0] = ret (.int 0)) (e3 : L.φ 16 [.int 2, od, bd, bd] = ret (.int 0)) (e4 : L.φ 16 [.int 3, od, bd, bd] = ret (.int 0))
    (e5 : L.φ 16 [.int 2, X4 a b c e, bd, .int 0] = ret (.int 1)) (e6 : L.φ 16 [.int 2, X4 a b c e, .int 0, bd] = ret (.int 1)) (e7 : L.φ 16 [.int 3, X4 a b c e, bd, .int 0] = ret (.int 1)) (e8 : L.φ 16 [.int 3, X4 a b c e, .int 0, bd] = ret (.int 1))
    (e9 : L.φ 16 [.int 2, X4 a b c e, .int 0, .int 61] = ret (.int 1)) (e10 : L.φ 16 [.int 3, X4 a b c e, .int 9990, .int 0] = ret (.int 5)) (e11 : L.φ 16 [.int 3, X4 a b c e, .int 1, .int 9999] = ret (.int 5))
    (e12 : L.φ 16 [.int 4, ld, .int 0, .int 0] = ret (.int 2)) (e13 : L.φ 16 [.int 4, .lst [X4 a b c e, X4 a b c e, X4 a b c e, X4 a b c e, X4 a b c e, X4 a b c e, X4 a b c e, X4 a b c e, X4 a b c e, X4 a b c e], .int 0, .int 0] = ret .non)
    (e14 : L.φ 16 [.int 5, nd, od, bd] = ret (.int 3)) (e15 : L.φ 16 [.int 5, .str [97], od, bd] = ret (.int 0)) (e16 : L.φ 16 [.int 5, .str [97], X4 a b c e, bd] = ret (.int 4)) (e17 : L.φ 16 [.int 5, .str [97], X4 a b c e, .int (e - 1)] = ret (.int 4))
    (e18 : L.φ 16 [.int 5, .str [97], X4 a b c e, .int 9999] = ret (.int 5)) (e19 : L.φ 16 [.int 5, .str [97], X4 50 0 0 60, .int 60] = ret .non) : runF L f__law_rejected [xs, X4 a b c e] = ret (.bl true) := by
  simp only [odds, bads, lists, names] at p1 p2 p3 p4
  have t0 : evS L (nth b__law_rejected 0) [.v xs, .v (X4 a b c e), .none, .none, .none, .none, .none] = nextS [.v xs, .v (X4 a b c e), .v (.lst [.non, .tup [], .tup [.int a, .int b, .int c], .lst [.int a, .int b, .int c, .int e], X4 a b (b - 1) e]), .none, .none, .none, .none] := by
    simp -implicitDefEqProofs [oret, onext, orse, oite, bite, beite, lite, evSs, evS, evs, evi, runF, Fd.env, Env.get, Slot.val, Slot.own, Slot.exc, tru, asInt, fnD, lstD, unpD, setAll, setPar, slotOf, bindT, wipeT, binD, LIM, g0, g1, g3, ev, nth, b__law_rejected, slcD, cut, sIx, bltD, listD, subD, ixN]
  have t1 : evS L (nth b__law_rejected 1) [.v xs, .v (X4 a b c e), .v (.lst [.non, .tup [], .tup [.int a, .int b, .int c], .lst [.int a, .int b, .int c, .int e], X4 a b (b - 1) e]), .none, .none, .none, .none] = nextS [.v xs, .v (X4 a b c e), .v (.lst [.non, .tup [], .tup [.int a, .int b, .int c], .lst [.int a, .int b, .int c, .int e], X4 a b (b - 1) e, X4 (e + 1) b c e, .tup [.bl true, .int b, .int c, .int e]]), .none, .none, .none, .none] := by
    simp -implicitDefEqProofs [oret, onext, orse, oite, bite, beite, lite, evSs, evS, evs, evi, runF, Fd.env, Env.get, Slot.val, Slot.own, Slot.exc, tru, asInt, fnD, lstD, unpD, setAll, setPar, slotOf, bindT, wipeT, binD, LIM, g0, g1, g3, ev, nth, b__law_rejected, slcD, cut, sIx, bltD, listD, subD, ixN]
  have q0 : subD (X4 a b c e) (.int 2) = some (.int c) := by simp [oret, onext, orse, oite, bite, beite, lite, evSs, evS, evs, evi, runF, Fd.env, Env.get, Slot.val, Slot.own, Slot.exc, tru, asInt, fnD, lstD, unpD, setAll, setPar, slotOf, bindT, wipeT, binD, LIM, g0, g1, g3, ev, subD, ixN]
  have t2 : evS L (nth b__law_rejected 2) [.v xs, .v (X4 a b c e), .v (.lst [.non, .tup [], .tup [.int a, .int b, .int c], .lst [.int a, .int b, .int c, .int e], X4 a b (b - 1) e, X4 (e + 1) b c e, .tup [.bl true, .int b, .int c, .int e]]), .none, .none, .none, .none] = nextS [.v xs, .v (X4 a b c e), .v (od), .none, .none, .none, .none] := by
    simp -implicitDefEqProofs [oret, onext, orse, oite, bite, beite, lite, evSs, evS, evs, evi, runF, Fd.env, Env.get, Slot.val, Slot.own, Slot.exc, tru, asInt, fnD, lstD, unpD, setAll, setPar, slotOf, bindT, wipeT, binD, LIM, g0, g1, g3, ev, nth, b__law_rejected, slcD, cut, sIx, bltD, listD, d1, q0, p1]
  have t3 : evS L (nth b__law_rejected 3) [.v xs, .v (X4 a b c e), .v (od), .none, .none, .none, .none] = nextS [.v xs, .v (X4 a b c e), .v (od), .v (bd), .none, .none, .none] := by
    simp -implicitDefEqProofs [oret, onext, orse, oite, bite, beite, lite, evSs, evS, evs, evi, runF, Fd.env, Env.get, Slot.val, Slot.own, Slot.exc, tru, asInt, fnD, lstD, unpD, setAll, setPar, slotOf, bindT, wipeT, binD, LIM, g0, g1, g3, ev, nth, b__law_rejected, d2, p2]
  have t4 : evS L (nth b__law_rejected 4) [.v xs, .v (X4 a b c e), .v (od), .v (bd), .none, .none, .none] = nextS [.v xs, .v (X4 a b c e), .v (od), .v (bd), .v (.lst [.int 0, .int 0, .int 0]), .none, .none] := by
    simp -implicitDefEqProofs [oret, onext, orse, oite, bite, beite, lite, evSs, evS, evs, evi, runF, Fd.env, Env.get, Slot.val, Slot.own, Slot.exc, tru, asInt, fnD, lstD, unpD, setAll, setPar, slotOf, bindT, wipeT, binD, LIM, g0, g1, g3, ev, nth, b__law_rejected, e1, e2, e3]
  have t5 : evS L (nth b__law_rejected 5) [.v xs, .v (X4 a b c e), .v (od), .v (bd), .v (.lst [.int 0, .int 0, .int 0]), .none, .none] = nextS [.v xs, .v (X4 a b c e), .v (od), .v (bd), .v (.lst [.int 0, .int 0, .int 0, .int 0]), .none, .none] := by
    simp -implicitDefEqProofs [oret, onext, orse, oite, bite, beite, lite, evSs, evS, evs, evi, runF, Fd.env, Env.get, Slot.val, Slot.own, Slot.exc, tru, asInt, fnD, lstD, unpD, setAll, setPar, slotOf, bindT, wipeT, binD, LIM, g0, g1, g3, ev, nth, b__law_rejected, e4]
  have t6 : evS L (nth b__law_rejected 6) [.v xs, .v (X4 a b c e), .v (od), .v (bd), .v (.lst [.int 0, .int 0, .int 0, .int 0]), .none, .none] = nextS [.v xs, .v (X4 a b c e), .v (od), .v (bd), .v (.lst [.int 0, .int 0, .int 0, .int 0, .int 1, .int 1, .int 1]), .none, .none] := by
    simp -implicitDefEqProofs [oret, onext, orse, oite, bite, beite, lite, evSs, evS, evs, evi, runF, Fd.env, Env.get, Slot.val, Slot.own, Slot.exc, tru, asInt, fnD, lstD, unpD, setAll, setPar, slotOf, bindT, wipeT, binD, LIM, g0, g1, g3, ev, nth, b__law_rejected, e5, e6, e7]
  have t7 : evS L (nth b__law_rejected 7) [.v xs, .v (X4 a b c e), .v (od), .v (bd), .v (.lst [.int 0, .int 0, .int 0, .int 0, .int 1, .int 1, .int 1]), .none, .none] = nextS [.v xs, .v (X4 a b c e), .v (od), .v (bd), .v (.lst [.int 0, .int 0, .int 0, .int 0, .int 1, .int 1, .int 1, .int 1]), .none, .none] := by
    simp -implicitDefEqProofs [oret, onext, orse, oite, bite, beite, lite, evSs, evS, evs, evi, runF, Fd.env, Env.get, Slot.val, Slot.own, Slot.exc, tru, asInt, fnD, lstD, unpD, setAll, setPar, slotOf, bindT, wipeT, binD, LIM, g0, g1, g3, ev, nth, b__law_rejected, e8]
  have t8 : evS L (nth b__law_rejected 8) [.v xs, .v (X4 a b c e), .v (od), .v (bd), .v (.lst [.int 0, .int 0, .int 0, .int 0, .int 1, .int 1, .int 1, .int 1]), .none, .none] = nextS [.v xs, .v (X4 a b c e), .v (od), .v (bd), .v (.lst [.int 0, .int 0, .int 0, .int 0, .int 1, .int 1, .int 1, .int 1, .int 1, .int 5]), .none, .none] := by
    simp -implicitDefEqProofs [oret, onext, orse, oite, bite, beite, lite, evSs, evS, evs, evi, runF, Fd.env, Env.get, Slot.val, Slot.own, Slot.exc, tru, asInt, fnD, lstD, unpD, setAll, setPar, slotOf, bindT, wipeT, binD, LIM, g0, g1, g3, ev, nth, b__law_rejected, e9, e10]
  have t9 : evS L (nth b__law_rejected 9) [.v xs, .v (X4 a b c e), .v (od), .v (bd), .v (.lst [.int 0, .int 0, .int 0, .int 0, .int 1, .int 1, .int 1, .int 1, .int 1, .int 5]), .none, .none] = nextS [.v xs, .v (X4 a b c e), .v (od), .v (bd), .v (.lst [.int 0, .int 0, .int 0, .int 0, .int 1, .int 1, .int 1, .int 1, .int 1, .int 5, .int 5]), .none, .none] := by
    simp -implicitDefEqProofs [oret, onext, orse, oite, bite, beite, lite, evSs, evS, evs, evi, runF, Fd.env, Env.get, Slot.val, Slot.own, Slot.exc, tru, asInt, fnD, lstD, unpD, setAll, setPar, slotOf, bindT, wipeT, binD, LIM, g0, g1, g3, ev, nth, b__law_rejected, e11]
  have t10 : evS L (nth b__law_rejected 10) [.v xs, .v (X4 a b c e), .v (od), .v (bd), .v (.lst [.int 0, .int 0, .int 0, .int 0, .int 1, .int 1, .int 1, .int 1, .int 1, .int 5, .int 5]), .none, .none] = nextS [.v xs, .v (X4 a b c e), .v (od), .v (bd), .v (.lst [.int 0, .int 0, .int 0, .int 0, .int 1, .int 1, .int 1, .int 1, .int 1, .int 5, .int 5]), .none, .none] := by
    simp -implicitDefEqProofs [oret, onext, orse, oite, bite, beite, lite, evSs, evS, evs, evi, runF, Fd.env, Env.get, Slot.val, Slot.own, Slot.exc, tru, asInt, fnD, lstD, unpD, setAll, setPar, slotOf, bindT, wipeT, binD, LIM, g0, g1, g3, ev, nth, b__law_rejected, cmpD, shS, shp, eqD, eqL]
  have t11 : evS L (nth b__law_rejected 11) [.v xs, .v (X4 a b c e), .v (od), .v (bd), .v (.lst [.int 0, .int 0, .int 0, .int 0, .int 1, .int 1, .int 1, .int 1, .int 1, .int 5, .int 5]), .none, .none] = nextS [.v xs, .v (X4 a b c e), .v (od), .v (bd), .v (.lst [.int 0, .int 0, .int 0, .int 0, .int 1, .int 1, .int 1, .int 1, .int 1, .int 5, .int 5]), .v (ld), .none] := by
    simp -implicitDefEqProofs [oret, onext, orse, oite, bite, beite, lite, evSs, evS, evs, evi, runF, Fd.env, Env.get, Slot.val, Slot.own, Slot.exc, tru, asInt, fnD, lstD, unpD, setAll, setPar, slotOf, bindT, wipeT, binD, LIM, g0, g1, g3, ev, nth, b__law_rejected, d3, p3, List.replicate]
  have t12 : evS L (nth b__law_rejected 12) [.v xs, .v (X4 a b c e), .v (od), .v (bd), .v (.lst [.int 0, .int 0, .int 0, .int 0, .int 1, .int 1, .int 1, .int 1, .int 1, .int 5, .int 5]), .v (ld), .none] = nextS [.v xs, .v (X4 a b c e), .v (od), .v (bd), .v (.lst [.int 0, .int 0, .int 0, .int 0, .int 1, .int 1, .int 1, .int 1, .int 1, .int 5, .int 5]), .v (ld), .none] := by
    simp -implicitDefEqProofs [oret, onext, orse, oite, bite, beite, lite, evSs, evS, evs, evi, runF, Fd.env, Env.get, Slot.val, Slot.own, Slot.exc, tru, asInt, fnD, lstD, unpD, setAll, setPar, slotOf, bindT, wipeT, binD, LIM, g0, g1, g3, ev, nth, b__law_rejected, cmpD, shS, shp, eqD, eqL, e12, e13, List.replicate, isCD]
  have t13 : evS L (nth b__law_rejected 13) [.v xs, .v (X4 a b c e), .v (od), .v (bd), .v (.lst [.int 0, .int 0, .int 0, .int 0, .int 1, .int 1, .int 1, .int 1, .int 1, .int 5, .int 5]), .v (ld), .none] = nextS [.v xs, .v (X4 a b c e), .v (od), .v (bd), .v (.lst [.int 0, .int 0, .int 0, .int 0, .int 1, .int 1, .int 1, .int 1, .int 1, .int 5, .int 5]), .v (ld), .v (nd)] := by
    simp -implicitDefEqProofs [oret, onext, orse, oite, bite, beite, lite, evSs, evS, evs, evi, runF, Fd.env, Env.get, Slot.val, Slot.own, Slot.exc, tru, asInt, fnD, lstD, unpD, setAll, setPar, slotOf, bindT, wipeT, binD, LIM, g0, g1, g3, ev, nth, b__law_rejected, d4, p4]
  have t14 : evS L (nth b__law_rejected 14) [.v xs, .v (X4 a b c e), .v (od), .v (bd), .v (.lst [.int 0, .int 0, .int 0, .int 0, .int 1, .int 1, .int 1, .int 1, .int 1, .int 5, .int 5]), .v (ld), .v (nd)] = nextS [.v xs, .v (X4 a b c e), .v (od), .v (bd), .v (.lst [.int 3, .int 0]), .v (ld), .v (nd)] := by
    simp -implicitDefEqProofs [oret, onext, orse, oite, bite, beite, lite, evSs, evS, evs, evi, runF, Fd.env, Env.get, Slot.val, Slot.own, Slot.exc, tru, asInt, fnD, lstD, unpD, setAll, setPar, slotOf, bindT, wipeT, binD, LIM, g0, g1, g3, ev, nth, b__law_rejected, e14, e15]
  have t15 : evS L (nth b__law_rejected 15) [.v xs, .v (X4 a b c e), .v (od), .v (bd), .v (.lst [.int 3, .int 0]), .v (ld), .v (nd)] = nextS [.v xs, .v (X4 a b c e), .v (od), .v (bd), .v (.lst [.int 3, .int 0, .int 4]), .v (ld), .v (nd)] := by
    simp -implicitDefEqProofs [oret, onext, orse, oite, bite, beite, lite, evSs, evS, evs, evi, runF, Fd.env, Env.get, Slot.val, Slot.own, Slot.exc, tru, asInt, fnD, lstD, unpD, setAll, setPar, slotOf, bindT, wipeT, binD, LIM, g0, g1, g3, ev, nth, b__law_rejected, e16]
  have q1 : subD (X4 a b c e) (.int 3) = some (.int e) := by simp [oret, onext, orse, oite, bite, beite, lite, evSs, evS, evs, evi, runF, Fd.env, Env.get, Slot.val, Slot.own, Slot.exc, tru, asInt, fnD, lstD, unpD, setAll, setPar, slotOf, bindT, wipeT, binD, LIM, g0, g1, g3, ev, subD, ixN]
  have t16 : evS L (nth b__law_rejected 16) [.v xs, .v (X4 a b c e), .v (od), .v (bd), .v (.lst [.int 3, .int 0, .int 4]), .v (ld), .v (nd)] = nextS [.v xs, .v (X4 a b c e), .v (od), .v (bd), .v (.lst [.int 3, .int 0, .int 4, .int 4, .int 5]), .v (ld), .v (nd)] := by
    simp -implicitDefEqProofs [oret, onext, orse, oite, bite, beite, lite, evSs, evS, evs, evi, runF, Fd.env, Env.get, Slot.val, Slot.own, Slot.exc, tru, asInt, fnD, lstD, unpD, setAll, setPar, slotOf, bindT, wipeT, binD, LIM, g0, g1, g3, ev, nth, b__law_rejected, q1, e17, e18]
  have t17 : evS L (nth b__law_rejected 17) [.v xs, .v (X4 a b c e), .v (od), .v (bd), .v (.lst [.int 3, .int 0, .int 4, .int 4, .int 5]), .v (ld), .v (nd)] = nextS [.v xs, .v (X4 a b c e), .v (od), .v (bd), .v (.lst [.int 3, .int 0, .int 4, .int 4, .int 5, .non]), .v (ld), .v (nd)] := by
    simp -implicitDefEqProofs [oret, onext, orse, oite, bite, beite, lite, evSs, evS, evs, evi, runF, Fd.env, Env.get, Slot.val, Slot.own, Slot.exc, tru, asInt, fnD, lstD, unpD, setAll, setPar, slotOf, bindT, wipeT, binD, LIM, g0, g1, g3, ev, nth, b__law_rejected, e19]
  have t18 : evS L (nth b__law_rejected 18) [.v xs, .v (X4 a b c e), .v (od), .v (bd), .v (.lst [.int 3, .int 0, .int 4, .int 4, .int 5, .non]), .v (ld), .v (nd)] = retS (.bl true) := by
    simp -implicitDefEqProofs [oret, onext, orse, oite, bite, beite, lite, evSs, evS, evs, evi, runF, Fd.env, Env.get, Slot.val, Slot.own, Slot.exc, tru, asInt, fnD, lstD, unpD, setAll, setPar, slotOf, bindT, wipeT, binD, LIM, g0, g1, g3, ev, nth, b__law_rejected, cmpD, shS, shp, eqD, eqL]
  show outM (evSs L (drp b__law_rejected 0) [.v xs, .v (X4 a b c e), .none, .none, .none, .none, .none]) = _
  rw [stp (by decide) t0 (stp (by decide) t1 (stp (by decide) t2 (stp (by decide) t3 (stp (by decide) t4 (stp (by decide) t5 (stp (by decide) t6 (stp (by decide) t7 (stp (by decide) t8 (stp (by decide) t9 (stp (by decide) t10 (stp (by decide) t11 (stp (by decide) t12 (stp (by decide) t13 (stp (by decide) t14 (stp (by decide) t15 (stp (by decide) t16 (stp (by decide) t17 ((stpR (by decide) t18)))))))))))))))))))]
  rfl
end Lw

end
section
set_option maxHeartbeats 1000000
namespace Lw
open Py
theorem s_rej (k : Nat) (ns : List Int) (hl : ns.length ≤ 63) {a b c e : Int} (h : Dr a b c e) : F (k + 7) 18 [.scr (ns.map .int), X4 a b c e] = ret (.bl true) := by
  obtain ⟨o1, d1, l1, u1⟩ := s_drawn (k + 5) ns 50 9 hl (by decide) (by decide)
  obtain ⟨o2, d2, l2, u2⟩ := s_drawn (k + 5) ns 51 5 hl (by decide) (by decide)
  obtain ⟨o3, d3, l3, u3⟩ := s_drawn (k + 5) ns 52 6 hl (by decide) (by decide)
  obtain ⟨o4, d4, l4, u4⟩ := s_drawn (k + 5) ns 53 6 hl (by decide) (by decide)
  obtain ⟨od, m1, p1⟩ := pick (xs := odds a b c e) l1 (by simpa [odds] using u1)
  obtain ⟨bd, m2, p2⟩ := pick (xs := bads) l2 (by simpa [bads] using u2)
  obtain ⟨ld, m3, p3⟩ := pick (xs := lists (X4 a b c e) od) l3 (by simpa [lists] using u3)
  obtain ⟨nd, m4, p4⟩ := pick (xs := names) l4 (by simpa [names] using u4)
  have ho := odd_no h k od m1
  have ho1 := odd_no h (k + 1) od m1
  obtain ⟨hb1, hb2⟩ := bad_no bd m2
  have hx := h.ex
  obtain ⟨b1, b2, b3, b4, b5, b6, b7, b8, b9⟩ := h
  have T0 : isTime (.int 0) = true := by decide
  have hbz : (isTime bd && isTime (.int 0)) = false := by rw [hb2]; rfl
  have hzb : (isTime (.int 0) && isTime bd) = false := by rw [hb2]; rfl
  have c3 : (3 : Nat) = 1 ∨ 3 = 2 ∨ 3 = 3 ∨ 3 = 4 ∨ 3 = 5 ∨ 3 = 6 := by omega
  have c5 : (5 : Nat) = 1 ∨ 5 = 2 ∨ 5 = 3 ∨ 5 = 4 ∨ 5 = 5 ∨ 5 = 6 := by omega
  have c2 : (2 : Nat) = 1 ∨ 2 = 2 ∨ 2 = 3 ∨ 2 = 4 ∨ 2 = 5 ∨ 2 = 6 := by omega
  have c4 : (4 : Nat) = 1 ∨ 4 = 2 ∨ 4 = 3 ∨ 4 = 4 ∨ 4 = 5 ∨ 4 = 6 := by omega
  have c1 : (1 : Nat) = 1 ∨ 1 = 2 ∨ 1 = 3 ∨ 1 = 4 ∨ 1 = 5 ∨ 1 = 6 := by omega
  have c6 : (6 : Nat) = 1 ∨ 6 = 2 ∨ 6 = 3 ∨ 6 = 4 ∨ 6 = 5 ∨ 6 = 6 := by omega
  rw [u_rej]
  refine rej_body (Lk' (k + 6)) d1 d2 d3 d4 p1 p2 p3 p4 ?_ ?_ ?_ ?_ ?_ ?_ ?_ ?_ ?_ ?_ ?_ ?_ ?_ ?_ ?_ ?_ ?_ ?_ ?_
  · exact s_errX (k := k + 5) (w := 0) (by decide) c3 (s_delayN ho)
  · exact s_errX (k := k + 5) (w := 1) (by decide) c3 (s_offN ho)
  · exact s_errX (k := k + 5) (w := 2) (by decide) c3 (s_offwN ho)
  · exact s_errX (k := k + 5) (w := 3) (by decide) c3 (s_delayedN ho)
  · exact s_errX (k := k + 5) (w := 2) (by decide) c5 (s_offwB hx hb1 rfl hbz)
  · exact s_errX (k := k + 5) (w := 2) (by decide) c5 (s_offwB hx rfl hb1 hzb)
  · exact s_errX (k := k + 5) (w := 3) (by decide) c5 (s_delayedB hx hb1 rfl hbz)
  · exact s_errX (k := k + 5) (w := 3) (by decide) c5 (s_delayedB hx rfl hb1 hzb)
  · refine s_errX (k := k + 5) (w := 2) (by decide) c5 ((s_offw hx (x := 0) (y := 61) (by decide)).trans ?_)
    rw [if_pos (by omega)]
  · refine s_errX (k := k + 5) (w := 3) (by decide) c2 ((s_delayed hx (x := 9990) (y := 0) (by decide)).trans ?_)
    rw [if_pos (by omega)]
  · refine s_errX (k := k + 5) (w := 3) (by decide) c2 ((s_delayed hx (x := 1) (y := 9999) (by decide)).trans ?_)
    rw [if_pos (by omega)]
  · exact s_errX (k := k + 5) (w := 4) (by decide) c4 (list_no ⟨b1, b2, b3, b4, b5, b6, b7, b8, b9⟩ m1 (k + 1) ld m3)
  · obtain ⟨d, hd⟩ := co10 (Lk' (k + 4)) (x := X4 a b c e) rfl (hx.is (k + 1)) (s_foff (k + 3) a b c e)
    exact s_err (k := k + 5) (w := 4) (by decide) ((u_common (k + 4) _).trans hd)
  · exact s_errX (k := k + 5) (w := 5) (by decide) c6 (r_name (name_no (k + 3) nd m4))
  · exact s_errX (k := k + 5) (w := 5) (by decide) c3 (r_ex (n_a (k + 3)) ho)
  · exact s_errX (k := k + 5) (w := 5) (by decide) c1 (r_bad (n_a (k + 3)) hx hb1 hb2)
  · refine s_errX (k := k + 5) (w := 5) (by decide) c1 ?_
    cases ht : isTime (.int (e - 1)) with
    | false => exact r_bad (n_a (k + 3)) hx rfl ht
    | true =>
      refine (r_now (n_a (k + 3)) hx ht).trans ?_
      rw [if_pos (by omega)]
  · refine s_errX (k := k + 5) (w := 5) (by decide) c2 ((r_now (n_a (k + 3)) hx (y := 9999) (by decide)).trans ?_)
    rw [if_neg (by omega), if_neg]
    simp only [isTime, Bool.and_eq_true, decide_eq_true_eq]
    omega
  · have hx2 : Ex 50 0 0 60 := ⟨by decide⟩
    refine s_err (k := k + 5) (w := 5) (v := .tup [.str [97], .int (60 + (0 - 60)), .int (60 + (0 - 50))]) (by decide) ((r_now (n_a (k + 3)) hx2 (y := 60) (by decide)).trans ?_)
    rw [if_neg (by decide), if_pos (by decide)]
end Lw

end
section
set_option maxHeartbeats 1000000
namespace Lw
open Py
theorem compM_congr {f g : D → M (Option D)} : ∀ xs : List D, (∀ x ∈ xs, f x = g x) → compM xs f = compM xs g
  | [], _ => rfl
  | x :: xs, h => by
    rw [compM, compM, h x (by simp [oret, onext, orse, oite, bite, beite, lite, evSs, evS, evs, evi, runF, Fd.env, Env.get, Slot.val, Slot.own, Slot.exc, tru, asInt, fnD, lstD, unpD, setAll, setPar, slotOf, bindT, wipeT, binD, LIM, g0, g1, g3, ev]), compM_congr xs fun y hy => h y (by simp [oret, onext, orse, oite, bite, beite, lite, evSs, evS, evs, evi, runF, Fd.env, Env.get, Slot.val, Slot.own, Slot.exc, tru, asInt, fnD, lstD, unpD, setAll, setPar, slotOf, bindT, wipeT, binD, LIM, g0, g1, g3, ev, hy])]
def rowB : Ss := match nth b_law 10 with
  | .fo _ _ b => b
  | _ => .nil
theorem row1 (L : Lk) {lo l : Int} {N n : Nat} {r : D} (s0 s1 s3 s4 s5 s7 s8 s9 s10 s11 : Slot) (h : L.φ 17 [r, .int 0, .int 0] = ret (.lst (intsF l n))) :
    evSs L rowB [s0, s1, .v (.lst (intsF lo N)), s3, s4, s5, .v r, s7, s8, s9, s10, s11] = nextS [s0, s1, .v (.lst (intsF (max lo l) (min (lo + N) (l + n) - max lo l).toNat)), s3, s4, s5, .v r, s7, s8, s9, s10, s11] := by
  have key : compM (intsF lo N) (fun x => noexc (bnd (lif (bindT (wipeT [s0, s1, .v (.lst (intsF lo N)), s3, s4, s5, .v r, s7, s8, s9, s10, s11] (.nm 11)) (.nm 11) x)) fun r' => bnd (ev L (.cmp .inn (.var 11) (.call 17 (.cons (.var 6) (.cons (.cst (.int 0)) (.cons (.cst (.int 0)) .nil))))) r') fun k => bnd (lif (tru k)) fun k => if k = true then bnd (ev L (.var 11) r') fun y => ret (some y) else ret none)) = ret (intsF (max lo l) (min (lo + N) (l + n) - max lo l).toNat) := by
    rw [← filt l (l + n) N lo]
    refine compM_congr _ fun x hx => ?_
    rw [ints_eq] at hx
    obtain ⟨i, _, rfl⟩ := List.mem_map.mp hx
    have hin : inD (.int i) (.lst (intsF l n)) = some (decide (l ≤ i) && decide (i < l + n)) := by
      show (if (shp 8 (.int i) && (intsF l n).all (shp 8)) = true then some ((intsF l n).any fun y => eqD y (.int i)) else none) = _
      rw [shp_ints, mem_ints]
      rfl
    cases hb : (decide (l ≤ i) && decide (i < l + n)) with
    | true =>
      rw [hb] at hin
      simp -implicitDefEqProofs [oret, onext, orse, oite, bite, beite, lite, evSs, evS, evs, evi, runF, Fd.env, Env.get, Slot.val, Slot.own, Slot.exc, tru, asInt, fnD, lstD, unpD, setAll, setPar, slotOf, bindT, wipeT, binD, LIM, g0, g1, g3, ev, h, cmpD, hin, hb]
    | false =>
      rw [hb] at hin
      simp -implicitDefEqProofs [oret, onext, orse, oite, bite, beite, lite, evSs, evS, evs, evi, runF, Fd.env, Env.get, Slot.val, Slot.own, Slot.exc, tru, asInt, fnD, lstD, unpD, setAll, setPar, slotOf, bindT, wipeT, binD, LIM, g0, g1, g3, ev, h, cmpD, hin, hb]
  have hB : rowB = .cons (.asg 2 (.cmpi (.nm 11) (.seq (.var 2)) (.cmp .inn (.var 11) (.call 17 (.cons (.var 6) (.cons (.cst (.int 0)) (.cons (.cst (.int 0)) .nil))))) (.var 11))) .nil := rfl
  rw [hB, evSs.eq_2]
  have e1 : ev L (.cmpi (.nm 11) (.seq (.var 2)) (.cmp .inn (.var 11) (.call 17 (.cons (.var 6) (.cons (.cst (.int 0)) (.cons (.cst (.int 0)) .nil))))) (.var 11)) [s0, s1, .v (.lst (intsF lo N)), s3, s4, s5, .v r, s7, s8, s9, s10, s11] = ret (.lst (intsF (max lo l) (min (lo + N) (l + n) - max lo l).toNat)) := by
    rw [ev]
    have e0 : evi L (.seq (.var 2)) [s0, s1, .v (.lst (intsF lo N)), s3, s4, s5, .v r, s7, s8, s9, s10, s11] = ret (intsF lo N) := by
      simp -implicitDefEqProofs [oret, onext, orse, oite, bite, beite, lite, evSs, evS, evs, evi, runF, Fd.env, Env.get, Slot.val, Slot.own, Slot.exc, tru, asInt, fnD, lstD, unpD, setAll, setPar, slotOf, bindT, wipeT, binD, LIM, g0, g1, g3, ev, itD]
    rw [e0, bnd_ret, key, bnd_ret]
  rw [evS.eq_1, e1]
  rfl
end Lw

end
section
set_option maxHeartbeats 1000000
namespace Lw
open Py
theorem law_body (L : Lk) {xs Y Z r6 : D} {a b c e t u vr nw : Int} {D0 D1 D2 R : List D} (h1 : L.φ 15 [xs, .int 1] = ret (X4 a b c e))
    (h11 : L.φ 15 [xs, .int 11] = ret Y)
    (h31 : L.φ 15 [xs, .int 31] = ret Z)
    (hD0 : L.φ 17 [X4 a b c e, .int 0, .int 0] = ret (.lst D0))
    (hdel : L.φ 7 [X4 a b c e] = ret (.int (e - a - (c - b))))
    (hoff : L.φ 8 [X4 a b c e] = ret (P2 (c - e) (b - a)))
    (f0 : subD (.lst D0) (.int 0) = some (.int (c - e)))
    (f1 : subD (.lst D0) (.int (-1)) = some (.int (b - a)))
    (hlen : (D0.length : Int) = e - a - (c - b) + 1)
    (ht : L.φ 14 [xs, .int 21, .int (e - a - (c - b) + 2)] = ret (.int t))
    (hu : L.φ 14 [xs, .int 22, .int (e - a - (c - b) + 2)] = ret (.int u))
    (hD1 : L.φ 17 [X4 a b c e, .int t, .int u] = ret (.lst D1))
    (h7 : evS L (nth b_law 7) [.v xs, .v (.int (e - a - (c - b))), .v (.lst D1), .v (.int t), .v (.int u), .none, .none, .none, .none, .v (X4 a b c e), .v (Y), .none] = nextS [.v xs, .v (.int (e - a - (c - b))), .v (.lst D1), .v (.int t), .v (.int u), .none, .none, .none, .none, .v (X4 a b c e), .v (Y), .none])
    (h23 : L.φ 14 [xs, .int 23, .int 3] = ret (.int vr))
    (hR : slcD (.lst [X4 a b c e, Y, Z]) none (some (1 + vr)) = some (.lst R))
    (h10 : evS L (nth b_law 10) [.v xs, .v (.int (e - a - (c - b))), .v (.lst D0), .v (.int t), .v (.int u), .v (.lst R), .none, .none, .none, .v (X4 a b c e), .v (Y), .none] = nextS [.v xs, .v (.int (e - a - (c - b))), .v (.lst D2), .v (.int t), .v (.int u), .v (.lst R), .v (r6), .none, .none, .v (X4 a b c e), .v (Y), .none])
    (h11s : evS L (nth b_law 11) [.v xs, .v (.int (e - a - (c - b))), .v (.lst D2), .v (.int t), .v (.int u), .v (.lst R), .v (r6), .none, .none, .v (X4 a b c e), .v (Y), .none] = nextS [.v xs, .v (.int (e - a - (c - b))), .v (.lst D2), .v (.int t), .v (.int u), .v (.lst R), .v (r6), .none, .none, .v (X4 a b c e), .v (Y), .none])
    (hlate : L.φ 12 [X4 a b c e, .int t, .int u] = ret (X4 a (b + t) (c + t) (e + t + u)))
    (hoffL : L.φ 8 [X4 a (b + t) (c + t) (e + t + u)] = ret (P2 (c - e - u) (b - a + t)))
    (h24 : L.φ 14 [xs, .int 24, .int 50] = ret (.int nw))
    (hrep : L.φ 13 [.str [97, 98], X4 a b c e, .int (e + nw)] = ret (.tup [.str [97, 98], .int (e + nw + (c - e)), .int (e + nw + (b - a))]))
    (hrej : L.φ 18 [xs, X4 a b c e] = ret (.bl true)) : runF L f_law [xs] = ret (.bl true) := by
  have x0 : subD (X4 a b c e) (.int 0) = some (.int a) := by simp [oret, onext, orse, oite, bite, beite, lite, evSs, evS, evs, evi, runF, Fd.env, Env.get, Slot.val, Slot.own, Slot.exc, tru, asInt, fnD, lstD, unpD, setAll, setPar, slotOf, bindT, wipeT, binD, LIM, g0, g1, g3, ev, subD, ixN]
  have x1 : subD (X4 a b c e) (.int 1) = some (.int b) := by simp [oret, onext, orse, oite, bite, beite, lite, evSs, evS, evs, evi, runF, Fd.env, Env.get, Slot.val, Slot.own, Slot.exc, tru, asInt, fnD, lstD, unpD, setAll, setPar, slotOf, bindT, wipeT, binD, LIM, g0, g1, g3, ev, subD, ixN]
  have x2 : subD (X4 a b c e) (.int 2) = some (.int c) := by simp [oret, onext, orse, oite, bite, beite, lite, evSs, evS, evs, evi, runF, Fd.env, Env.get, Slot.val, Slot.own, Slot.exc, tru, asInt, fnD, lstD, unpD, setAll, setPar, slotOf, bindT, wipeT, binD, LIM, g0, g1, g3, ev, subD, ixN]
  have x3 : subD (X4 a b c e) (.int 3) = some (.int e) := by simp [oret, onext, orse, oite, bite, beite, lite, evSs, evS, evs, evi, runF, Fd.env, Env.get, Slot.val, Slot.own, Slot.exc, tru, asInt, fnD, lstD, unpD, setAll, setPar, slotOf, bindT, wipeT, binD, LIM, g0, g1, g3, ev, subD, ixN]
  have y0 : ∀ p q : Int, subD (P2 p q) (.int 0) = some (.int p) := fun p q => by simp [oret, onext, orse, oite, bite, beite, lite, evSs, evS, evs, evi, runF, Fd.env, Env.get, Slot.val, Slot.own, Slot.exc, tru, asInt, fnD, lstD, unpD, setAll, setPar, slotOf, bindT, wipeT, binD, LIM, g0, g1, g3, ev, subD, ixN]
  have y1 : ∀ p q : Int, subD (P2 p q) (.int 1) = some (.int q) := fun p q => by simp [oret, onext, orse, oite, bite, beite, lite, evSs, evS, evs, evi, runF, Fd.env, Env.get, Slot.val, Slot.own, Slot.exc, tru, asInt, fnD, lstD, unpD, setAll, setPar, slotOf, bindT, wipeT, binD, LIM, g0, g1, g3, ev, subD, ixN]
  have t0 : evS L (nth b_law 0) [.v xs, .none, .none, .none, .none, .none, .none, .none, .none, .none, .none, .none] = nextS [.v xs, .none, .none, .none, .none, .none, .none, .none, .none, .v (X4 a b c e), .v (Y), .none] := by
    simp -implicitDefEqProofs [oret, onext, orse, oite, bite, beite, lite, evSs, evS, evs, evi, runF, Fd.env, Env.get, Slot.val, Slot.own, Slot.exc, tru, asInt, fnD, lstD, unpD, setAll, setPar, slotOf, bindT, wipeT, binD, LIM, g0, g1, g3, ev, nth, b_law, h1, h11]
  have t1 : evS L (nth b_law 1) [.v xs, .none, .none, .none, .none, .none, .none, .none, .none, .v (X4 a b c e), .v (Y), .none] = nextS [.v xs, .v (.int (e - a - (c - b))), .none, .none, .none, .none, .none, .none, .none, .v (X4 a b c e), .v (Y), .none] := by
    simp -implicitDefEqProofs [oret, onext, orse, oite, bite, beite, lite, evSs, evS, evs, evi, runF, Fd.env, Env.get, Slot.val, Slot.own, Slot.exc, tru, asInt, fnD, lstD, unpD, setAll, setPar, slotOf, bindT, wipeT, binD, LIM, g0, g1, g3, ev, nth, b_law, x0, x1, x2, x3]
  have t2 : evS L (nth b_law 2) [.v xs, .v (.int (e - a - (c - b))), .none, .none, .none, .none, .none, .none, .none, .v (X4 a b c e), .v (Y), .none] = nextS [.v xs, .v (.int (e - a - (c - b))), .v (.lst D0), .none, .none, .none, .none, .none, .none, .v (X4 a b c e), .v (Y), .none] := by
    simp -implicitDefEqProofs [oret, onext, orse, oite, bite, beite, lite, evSs, evS, evs, evi, runF, Fd.env, Env.get, Slot.val, Slot.own, Slot.exc, tru, asInt, fnD, lstD, unpD, setAll, setPar, slotOf, bindT, wipeT, binD, LIM, g0, g1, g3, ev, nth, b_law, hD0]
  have t3 : evS L (nth b_law 3) [.v xs, .v (.int (e - a - (c - b))), .v (.lst D0), .none, .none, .none, .none, .none, .none, .v (X4 a b c e), .v (Y), .none] = nextS [.v xs, .v (.int (e - a - (c - b))), .v (.lst D0), .none, .none, .none, .none, .none, .none, .v (X4 a b c e), .v (Y), .none] := by
    simp -implicitDefEqProofs [oret, onext, orse, oite, bite, beite, lite, evSs, evS, evs, evi, runF, Fd.env, Env.get, Slot.val, Slot.own, Slot.exc, tru, asInt, fnD, lstD, unpD, setAll, setPar, slotOf, bindT, wipeT, binD, LIM, g0, g1, g3, ev, nth, b_law, cmpD, shS, shp, eqD, eqL, hdel, hoff, f0, f1, bltD, lenD, hlen]
  have t4 : evS L (nth b_law 4) [.v xs, .v (.int (e - a - (c - b))), .v (.lst D0), .none, .none, .none, .none, .none, .none, .v (X4 a b c e), .v (Y), .none] = nextS [.v xs, .v (.int (e - a - (c - b))), .v (.lst D0), .v (.int t), .none, .none, .none, .none, .none, .v (X4 a b c e), .v (Y), .none] := by
    simp -implicitDefEqProofs [oret, onext, orse, oite, bite, beite, lite, evSs, evS, evs, evi, runF, Fd.env, Env.get, Slot.val, Slot.own, Slot.exc, tru, asInt, fnD, lstD, unpD, setAll, setPar, slotOf, bindT, wipeT, binD, LIM, g0, g1, g3, ev, nth, b_law, ht]
  have t5 : evS L (nth b_law 5) [.v xs, .v (.int (e - a - (c - b))), .v (.lst D0), .v (.int t), .none, .none, .none, .none, .none, .v (X4 a b c e), .v (Y), .none] = nextS [.v xs, .v (.int (e - a - (c - b))), .v (.lst D0), .v (.int t), .v (.int u), .none, .none, .none, .none, .v (X4 a b c e), .v (Y), .none] := by
    simp -implicitDefEqProofs [oret, onext, orse, oite, bite, beite, lite, evSs, evS, evs, evi, runF, Fd.env, Env.get, Slot.val, Slot.own, Slot.exc, tru, asInt, fnD, lstD, unpD, setAll, setPar, slotOf, bindT, wipeT, binD, LIM, g0, g1, g3, ev, nth, b_law, hu]
  have t6 : evS L (nth b_law 6) [.v xs, .v (.int (e - a - (c - b))), .v (.lst D0), .v (.int t), .v (.int u), .none, .none, .none, .none, .v (X4 a b c e), .v (Y), .none] = nextS [.v xs, .v (.int (e - a - (c - b))), .v (.lst D1), .v (.int t), .v (.int u), .none, .none, .none, .none, .v (X4 a b c e), .v (Y), .none] := by
    simp -implicitDefEqProofs [oret, onext, orse, oite, bite, beite, lite, evSs, evS, evs, evi, runF, Fd.env, Env.get, Slot.val, Slot.own, Slot.exc, tru, asInt, fnD, lstD, unpD, setAll, setPar, slotOf, bindT, wipeT, binD, LIM, g0, g1, g3, ev, nth, b_law, hD1]
  have t7 := h7
  have t8 : evS L (nth b_law 8) [.v xs, .v (.int (e - a - (c - b))), .v (.lst D1), .v (.int t), .v (.int u), .none, .none, .none, .none, .v (X4 a b c e), .v (Y), .none] = nextS [.v xs, .v (.int (e - a - (c - b))), .v (.lst D1), .v (.int t), .v (.int u), .v (.lst R), .none, .none, .none, .v (X4 a b c e), .v (Y), .none] := by
    simp -implicitDefEqProofs [oret, onext, orse, oite, bite, beite, lite, evSs, evS, evs, evi, runF, Fd.env, Env.get, Slot.val, Slot.own, Slot.exc, tru, asInt, fnD, lstD, unpD, setAll, setPar, slotOf, bindT, wipeT, binD, LIM, g0, g1, g3, ev, nth, b_law, h31, h23, hR]
  have t9 : evS L (nth b_law 9) [.v xs, .v (.int (e - a - (c - b))), .v (.lst D1), .v (.int t), .v (.int u), .v (.lst R), .none, .none, .none, .v (X4 a b c e), .v (Y), .none] = nextS [.v xs, .v (.int (e - a - (c - b))), .v (.lst D0), .v (.int t), .v (.int u), .v (.lst R), .none, .none, .none, .v (X4 a b c e), .v (Y), .none] := by
    simp -implicitDefEqProofs [oret, onext, orse, oite, bite, beite, lite, evSs, evS, evs, evi, runF, Fd.env, Env.get, Slot.val, Slot.own, Slot.exc, tru, asInt, fnD, lstD, unpD, setAll, setPar, slotOf, bindT, wipeT, binD, LIM, g0, g1, g3, ev, nth, b_law, hD0]
  have t10 := h10
  have t11 := h11s
  have t12 : evS L (nth b_law 12) [.v xs, .v (.int (e - a - (c - b))), .v (.lst D2), .v (.int t), .v (.int u), .v (.lst R), .v (r6), .none, .none, .v (X4 a b c e), .v (Y), .none] = nextS [.v xs, .v (.int (e - a - (c - b))), .v (.lst D2), .v (.int t), .v (.int u), .v (.lst R), .v (r6), .v (X4 a (b + t) (c + t) (e + t + u)), .none, .v (X4 a b c e), .v (Y), .none] := by
    simp -implicitDefEqProofs [oret, onext, orse, oite, bite, beite, lite, evSs, evS, evs, evi, runF, Fd.env, Env.get, Slot.val, Slot.own, Slot.exc, tru, asInt, fnD, lstD, unpD, setAll, setPar, slotOf, bindT, wipeT, binD, LIM, g0, g1, g3, ev, nth, b_law, x0, x1, x2, x3]
  have t13 : evS L (nth b_law 13) [.v xs, .v (.int (e - a - (c - b))), .v (.lst D2), .v (.int t), .v (.int u), .v (.lst R), .v (r6), .v (X4 a (b + t) (c + t) (e + t + u)), .none, .v (X4 a b c e), .v (Y), .none] = nextS [.v xs, .v (.int (e - a - (c - b))), .v (.lst D2), .v (.int t), .v (.int u), .v (.lst R), .v (r6), .v (X4 a (b + t) (c + t) (e + t + u)), .none, .v (X4 a b c e), .v (Y), .none] := by
    simp -implicitDefEqProofs [oret, onext, orse, oite, bite, beite, lite, evSs, evS, evs, evi, runF, Fd.env, Env.get, Slot.val, Slot.own, Slot.exc, tru, asInt, fnD, lstD, unpD, setAll, setPar, slotOf, bindT, wipeT, binD, LIM, g0, g1, g3, ev, nth, b_law, cmpD, shS, shp, eqD, eqL, hlate]
  have t14 : evS L (nth b_law 14) [.v xs, .v (.int (e - a - (c - b))), .v (.lst D2), .v (.int t), .v (.int u), .v (.lst R), .v (r6), .v (X4 a (b + t) (c + t) (e + t + u)), .none, .v (X4 a b c e), .v (Y), .none] = nextS [.v xs, .v (.int (e - a - (c - b))), .v (.lst D2), .v (.int t), .v (.int u), .v (.lst R), .v (r6), .v (X4 a (b + t) (c + t) (e + t + u)), .none, .v (X4 a b c e), .v (Y), .none] := by
    simp -implicitDefEqProofs [oret, onext, orse, oite, bite, beite, lite, evSs, evS, evs, evi, runF, Fd.env, Env.get, Slot.val, Slot.own, Slot.exc, tru, asInt, fnD, lstD, unpD, setAll, setPar, slotOf, bindT, wipeT, binD, LIM, g0, g1, g3, ev, nth, b_law, cmpD, shS, shp, eqD, eqL, hoff, hoffL, y0, y1]
  have t15 : evS L (nth b_law 15) [.v xs, .v (.int (e - a - (c - b))), .v (.lst D2), .v (.int t), .v (.int u), .v (.lst R), .v (r6), .v (X4 a (b + t) (c + t) (e + t + u)), .none, .v (X4 a b c e), .v (Y), .none] = nextS [.v xs, .v (.int (e - a - (c - b))), .v (.lst D2), .v (.int t), .v (.int u), .v (.lst R), .v (r6), .v (X4 a (b + t) (c + t) (e + t + u)), .v (.int (e + nw)), .v (X4 a b c e), .v (Y), .none] := by
    simp -implicitDefEqProofs [oret, onext, orse, oite, bite, beite, lite, evSs, evS, evs, evi, runF, Fd.env, Env.get, Slot.val, Slot.own, Slot.exc, tru, asInt, fnD, lstD, unpD, setAll, setPar, slotOf, bindT, wipeT, binD, LIM, g0, g1, g3, ev, nth, b_law, x3, h24]
  have t16 : evS L (nth b_law 16) [.v xs, .v (.int (e - a - (c - b))), .v (.lst D2), .v (.int t), .v (.int u), .v (.lst R), .v (r6), .v (X4 a (b + t) (c + t) (e + t + u)), .v (.int (e + nw)), .v (X4 a b c e), .v (Y), .none] = nextS [.v xs, .v (.int (e - a - (c - b))), .v (.lst D2), .v (.int t), .v (.int u), .v (.lst R), .v (r6), .v (X4 a (b + t) (c + t) (e + t + u)), .v (.int (e + nw)), .v (X4 a b c e), .v (Y), .none] := by
    simp -implicitDefEqProofs [oret, onext, orse, oite, bite, beite, lite, evSs, evS, evs, evi, runF, Fd.env, Env.get, Slot.val, Slot.own, Slot.exc, tru, asInt, fnD, lstD, unpD, setAll, setPar, slotOf, bindT, wipeT, binD, LIM, g0, g1, g3, ev, nth, b_law, cmpD, shS, shp, eqD, eqL, hoff, hrep, y0, y1]
  have t17 : evS L (nth b_law 17) [.v xs, .v (.int (e - a - (c - b))), .v (.lst D2), .v (.int t), .v (.int u), .v (.lst R), .v (r6), .v (X4 a (b + t) (c + t) (e + t + u)), .v (.int (e + nw)), .v (X4 a b c e), .v (Y), .none] = retS (.bl true) := by
    simp -implicitDefEqProofs [oret, onext, orse, oite, bite, beite, lite, evSs, evS, evs, evi, runF, Fd.env, Env.get, Slot.val, Slot.own, Slot.exc, tru, asInt, fnD, lstD, unpD, setAll, setPar, slotOf, bindT, wipeT, binD, LIM, g0, g1, g3, ev, nth, b_law, hrej]
  show outM (evSs L (drp b_law 0) [.v xs, .none, .none, .none, .none, .none, .none, .none, .none, .none, .none, .none]) = _
  rw [stp (by decide) t0 (stp (by decide) t1 (stp (by decide) t2 (stp (by decide) t3 (stp (by decide) t4 (stp (by decide) t5 (stp (by decide) t6 (stp (by decide) t7 (stp (by decide) t8 (stp (by decide) t9 (stp (by decide) t10 (stp (by decide) t11 (stp (by decide) t12 (stp (by decide) t13 (stp (by decide) t14 (stp (by decide) t15 (stp (by decide) t16 ((stpR (by decide) t17))))))))))))))))))]
  rfl
end Lw

end
section
set_option maxHeartbeats 1000000
namespace Lw
open Py
theorem rows_fo (L : Lk) (σ : Env) (xs : List D) (h : (Env.get σ 5).val = some (.lst xs)) : evS L (nth b_law 10) σ = forS xs (fun r x => bndE r (lif (bindT r (.nm 6) x)) fun r => evSs L rowB r) σ := by
  show evS L (.fo (.nm 6) (.seq (.var 5)) rowB) σ = _
  rw [evS.eq_13]
  have : evi L (.seq (.var 5)) σ = ret xs := by
    show bnd (lif (Env.get σ 5).val) (fun x => lif (itD x)) = _
    rw [h]; rfl
  rw [this, bndE_ret]
theorem row_it (L : Lk) {lo l : Int} {N n : Nat} {r : D} (s0 s1 s3 s4 s5 s6 s7 s8 s9 s10 s11 : Slot) (h : L.φ 17 [r, .int 0, .int 0] = ret (.lst (intsF l n))) (rest : List D) :
    forS (r :: rest) (fun r x => bndE r (lif (bindT r (.nm 6) x)) fun r => evSs L rowB r) [s0, s1, .v (.lst (intsF lo N)), s3, s4, s5, s6, s7, s8, s9, s10, s11] =
    forS rest (fun r x => bndE r (lif (bindT r (.nm 6) x)) fun r => evSs L rowB r) [s0, s1, .v (.lst (intsF (max lo l) (min (lo + N) (l + n) - max lo l).toNat)), s3, s4, s5, .v r, s7, s8, s9, s10, s11] := by
  rw [forS]
  show seqS (evSs L rowB [s0, s1, .v (.lst (intsF lo N)), s3, s4, s5, .v r, s7, s8, s9, s10, s11]) _ = _
  rw [row1 L s0 s1 s3 s4 s5 s7 s8 s9 s10 s11 h, seqS_next]
theorem cmp_rows (L : Lk) {R : List D} {p q : Int} {n : Nat} {s0 s1 s3 s4 s6 s7 s8 s9 s10 s11 : Slot} (h : L.φ 11 [.lst R] = ret (resD p q)) (hn : n = (q + 1 - p).toNat) : evS L (nth b_law 11) [s0, s1, .v (.lst (intsF p n)), s3, s4, .v (.lst R), s6, s7, s8, s9, s10, s11] = nextS [s0, s1, .v (.lst (intsF p n)), s3, s4, .v (.lst R), s6, s7, s8, s9, s10, s11] := by
  cases n with
  | zero =>
    have : ¬ p ≤ q := by omega
    simp only [resD, if_neg this] at h
    simp -implicitDefEqProofs [oret, onext, orse, oite, bite, beite, lite, evSs, evS, evs, evi, runF, Fd.env, Env.get, Slot.val, Slot.own, Slot.exc, tru, asInt, fnD, lstD, unpD, setAll, setPar, slotOf, bindT, wipeT, binD, LIM, g0, g1, g3, ev, nth, b_law, h, cmpD, shS, shp, eqD, eqL, intsF]
  | succ n =>
    have hpq : p ≤ q := by omega
    simp only [resD, if_pos hpq] at h
    have f0 := first_of (lo := p) (n := n + 1) (by omega)
    have f1 := last_of (lo := p) (n := n + 1) (by omega)
    have e1 : p + ((n + 1 : Nat) : Int) - 1 = q := by omega
    rw [e1] at f1
    have hs : (intsF p (n + 1)).all (shp 7) = true := shp_ints _ _ _
    have c1 : cmpD .eq (.lst (intsF p (n + 1))) (.lst []) = some false := by
      show (if (shS (.lst (intsF p (n + 1))) && shp 8 (.lst [])) = true then some (eqD (.lst (intsF p (n + 1))) (.lst [])) else none) = _
      have e2 : shS (.lst (intsF p (n + 1))) = true := hs
      rw [e2]
      rfl
    have c2 : cmpD .ne (P2 p q) (P2 p q) = some false := by simp [oret, onext, orse, oite, bite, beite, lite, evSs, evS, evs, evi, runF, Fd.env, Env.get, Slot.val, Slot.own, Slot.exc, tru, asInt, fnD, lstD, unpD, setAll, setPar, slotOf, bindT, wipeT, binD, LIM, g0, g1, g3, ev, cmpD, shS, shp, eqD, eqL]
    generalize intsF p (n + 1) = D at *
    simp -implicitDefEqProofs [oret, onext, orse, oite, bite, beite, lite, evSs, evS, evs, evi, runF, Fd.env, Env.get, Slot.val, Slot.own, Slot.exc, tru, asInt, fnD, lstD, unpD, setAll, setPar, slotOf, bindT, wipeT, binD, LIM, g0, g1, g3, ev, nth, b_law, h, c1, c2, f0, f1]
theorem st7a (L : Lk) {t u : Int} {X : D} {s0 s1 s5 s6 s7 s8 s10 s11 : Slot} (h : L.φ 16 [.int 2, X, .int t, .int u] = ret (.int 1)) : evS L (nth b_law 7) [s0, s1, .v (.lst []), .v (.int t), .v (.int u), s5, s6, s7, s8, .v X, s10, s11] = nextS [s0, s1, .v (.lst []), .v (.int t), .v (.int u), s5, s6, s7, s8, .v X, s10, s11] := by
  simp -implicitDefEqProofs [oret, onext, orse, oite, bite, beite, lite, evSs, evS, evs, evi, runF, Fd.env, Env.get, Slot.val, Slot.own, Slot.exc, tru, asInt, fnD, lstD, unpD, setAll, setPar, slotOf, bindT, wipeT, binD, LIM, g0, g1, g3, ev, nth, b_law, h, cmpD, shS, shp, eqD, eqL]
theorem st7b (L : Lk) {t u p q : Int} {X : D} {D1 : List D} {s0 s1 s5 s6 s7 s8 s10 s11 : Slot} (h : L.φ 10 [X, .int t, .int u] = ret (P2 p q)) (c1 : cmpD .eq (.lst D1) (.lst []) = some false) (f0 : subD (.lst D1) (.int 0) = some (.int p)) (f1 : subD (.lst D1) (.int (-1)) = some (.int q)) :
    evS L (nth b_law 7) [s0, s1, .v (.lst D1), .v (.int t), .v (.int u), s5, s6, s7, s8, .v X, s10, s11] = nextS [s0, s1, .v (.lst D1), .v (.int t), .v (.int u), s5, s6, s7, s8, .v X, s10, s11] := by
  have c2 : cmpD .ne (P2 p q) (P2 p q) = some false := by simp [oret, onext, orse, oite, bite, beite, lite, evSs, evS, evs, evi, runF, Fd.env, Env.get, Slot.val, Slot.own, Slot.exc, tru, asInt, fnD, lstD, unpD, setAll, setPar, slotOf, bindT, wipeT, binD, LIM, g0, g1, g3, ev, cmpD, shS, shp, eqD, eqL]
  simp -implicitDefEqProofs [oret, onext, orse, oite, bite, beite, lite, evSs, evS, evs, evi, runF, Fd.env, Env.get, Slot.val, Slot.own, Slot.exc, tru, asInt, fnD, lstD, unpD, setAll, setPar, slotOf, bindT, wipeT, binD, LIM, g0, g1, g3, ev, nth, b_law, h, c1, c2, f0, f1]
end Lw

end
section
set_option maxHeartbeats 1000000
namespace Lw
open Py
theorem u_law (k : Nat) (ds : List D) : F (k + 1) 19 ds = runF (Lk' k) f_law ds := rfl
theorem offs0 {a b c e : Int} (h : Dr a b c e) (k : Nat) : F (k + 1) 17 [X4 a b c e, .int 0, .int 0] = ret (.lst (intsF (c - e) (e - a - (c - b) + 1).toNat)) := by
  obtain ⟨b1, b2, b3, b4, b5, b6, b7, b8, b9⟩ := h
  rw [s_offs k (x := 0) (y := 0) (by simp only [rngOk, Bool.and_eq_true, decide_eq_true_eq]; omega)]
  rw [show c - e + 0 = c - e from by omega, show e - a - (c - b) - 0 + 1 - 0 = e - a - (c - b) + 1 from by omega]
theorem law_true (ns : List Int) (hl : ns.length ≤ 63) : F 8 19 [.scr (ns.map .int)] = ret (.bl true) := by
  obtain ⟨a, b, c, e, h1, hX⟩ := s_exch 5 ns 1 hl (by decide)
  obtain ⟨a', b', c', e', h11, hY⟩ := s_exch 5 ns 11 hl (by decide)
  obtain ⟨a'', b'', c'', e'', h31, hZ⟩ := s_exch 5 ns 31 hl (by decide)
  have hx := hX.ex
  have hy := hY.ex
  have hz := hZ.ex
  have hD0 := offs0 hX 6
  have hD0y := offs0 hY 6
  have hD0z := offs0 hZ 6
  have hrej := s_rej 0 ns hl hX
  obtain ⟨b1, b2, b3, b4, b5, b6, b7, b8, b9⟩ := hX
  obtain ⟨y1, y2, y3, y4, y5, y6, y7, y8, y9⟩ := hY
  obtain ⟨z1, z2, z3, z4, z5, z6, z7, z8, z9⟩ := hZ
  obtain ⟨t, ht, t0, t1⟩ := s_drawn 6 ns 21 (e - a - (c - b) + 2) hl (by decide) (by omega)
  obtain ⟨u, hu, u0, u1⟩ := s_drawn 6 ns 22 (e - a - (c - b) + 2) hl (by decide) (by omega)
  obtain ⟨v, h23, v0, v1⟩ := s_drawn 6 ns 23 3 hl (by decide) (by decide)
  obtain ⟨nw, h24, w0, w1⟩ := s_drawn 6 ns 24 50 hl (by decide) (by decide)
  have htu : (isTime (.int t) && isTime (.int u)) = true := by
    simp only [isTime, Bool.and_eq_true, decide_eq_true_eq]; omega
  have hD1 := s_offs 6 (a := a) (b := b) (c := c) (e := e) (x := t) (y := u) (by simp only [rngOk, Bool.and_eq_true, decide_eq_true_eq]; omega)
  have f0 := first_of (lo := c - e) (n := (e - a - (c - b) + 1).toNat) (by omega)
  have f1 := last_of (lo := c - e) (n := (e - a - (c - b) + 1).toNat) (by omega)
  rw [show c - e + ((e - a - (c - b) + 1).toNat : Int) - 1 = b - a from by omega] at f1
  have hlate := s_delayed hx (x := t) (y := u) (k := 2) htu
  rw [if_neg (by omega)] at hlate
  have hxL : Ex a (b + t) (c + t) (e + t + u) := ⟨by
    simp only [exB, isTime, Bool.and_eq_true, decide_eq_true_eq]; omega⟩
  have hoffL := s_off hxL 2
  rw [show c + t - (e + t + u) = c - e - u from by omega, show b + t - a = b - a + t from by omega] at hoffL
  have hrep := r_now (k := 2) (n_ab 5) hx (y := e + nw) (by simp only [isTime, Bool.and_eq_true, decide_eq_true_eq]; omega)
  rw [if_neg (by omega), if_pos (by simp only [isTime, Bool.and_eq_true, decide_eq_true_eq]; omega)] at hrep
  have h7 : ∀ s0 s1 s5 s6 s7 s8 s10 s11, evS (Lk' 7) (nth b_law 7) [s0, s1, .v (.lst (intsF (c - e + u) (e - a - (c - b) - u + 1 - t).toNat)), .v (.int t), .v (.int u), s5, s6, s7, s8, .v (X4 a b c e), s10, s11] = nextS [s0, s1, .v (.lst (intsF (c - e + u) (e - a - (c - b) - u + 1 - t).toNat)), .v (.int t), .v (.int u), s5, s6, s7, s8, .v (X4 a b c e), s10, s11] := by
    intro s0 s1 s5 s6 s7 s8 s10 s11
    by_cases hlt : e - a - (c - b) < t + u
    · have e0 : (e - a - (c - b) - u + 1 - t).toNat = 0 := by omega
      rw [e0]
      refine st7a (Lk' 7) (s_errX (k := 6) (w := 2) (c := 5) (by decide) (by omega) ((s_offw hx (k := 1) htu).trans ?_))
      rw [if_pos hlt]
    · have q := s_offw hx (k := 2) htu
      rw [if_neg hlt] at q
      have g0 := first_of (lo := c - e + u) (n := (e - a - (c - b) - u + 1 - t).toNat) (by omega)
      have g1 := last_of (lo := c - e + u) (n := (e - a - (c - b) - u + 1 - t).toNat) (by omega)
      rw [show c - e + u + ((e - a - (c - b) - u + 1 - t).toNat : Int) - 1 = b - a - t from by omega] at g1
      refine st7b (Lk' 7) q ?_ g0 g1
      have hs : shS (.lst (intsF (c - e + u) (e - a - (c - b) - u + 1 - t).toNat)) = true := shp_ints _ _ _
      show (if (shS (.lst (intsF (c - e + u) (e - a - (c - b) - u + 1 - t).toNat)) && shp 8 (.lst [])) = true then some (eqD (.lst (intsF (c - e + u) (e - a - (c - b) - u + 1 - t).toNat)) (.lst [])) else none) = _
      rw [hs]
      obtain ⟨m, hm⟩ : ∃ m, (e - a - (c - b) - u + 1 - t).toNat = m + 1 := ⟨(e - a - (c - b) - u + 1 - t).toNat - 1, by omega⟩
      rw [hm]
      rfl
  have ex : ∃ (R D2 : List D) (r6 : D), slcD (.lst [X4 a b c e, X4 a' b' c' e', X4 a'' b'' c'' e'']) none (some (1 + v)) = some (.lst R) ∧
      (∀ s0 s1 s3 s4 s6 s7 s8 s9 s10 s11, evS (Lk' 7) (nth b_law 10) [s0, s1, .v (.lst (intsF (c - e) (e - a - (c - b) + 1).toNat)), s3, s4, .v (.lst R), s6, s7, s8, s9, s10, s11] = nextS [s0, s1, .v (.lst D2), s3, s4, .v (.lst R), .v r6, s7, s8, s9, s10, s11]) ∧
      (∀ s0 s1 s3 s4 s6 s7 s8 s9 s10 s11, evS (Lk' 7) (nth b_law 11) [s0, s1, .v (.lst D2), s3, s4, .v (.lst R), s6, s7, s8, s9, s10, s11] = nextS [s0, s1, .v (.lst D2), s3, s4, .v (.lst R), s6, s7, s8, s9, s10, s11]) := by
    have hv : v = 0 ∨ v = 1 ∨ v = 2 := by omega
    have ix : (Lk' 6).φ 3 [X4 a b c e] = ret (.bl true) := hx.is 3
    have iy : (Lk' 6).φ 3 [X4 a' b' c' e'] = ret (.bl true) := hy.is 3
    have iz : (Lk' 6).φ 3 [X4 a'' b'' c'' e''] = ret (.bl true) := hz.is 3
    have ox : (Lk' 6).φ 6 [X4 a b c e] = ret (P2 (c - e) (b - a)) := s_foff 5 a b c e
    have oy : (Lk' 6).φ 6 [X4 a' b' c' e'] = ret (P2 (c' - e') (b' - a')) := s_foff 5 a' b' c' e'
    have oz : (Lk' 6).φ 6 [X4 a'' b'' c'' e''] = ret (P2 (c'' - e'') (b'' - a'')) := s_foff 5 a'' b'' c'' e''
    rcases hv with rfl | rfl | rfl
    · refine ⟨[X4 a b c e], intsF (max (c - e) (c - e)) (min ((c - e) + ((e - a - (c - b) + 1).toNat : Nat)) ((c - e) + ((e - a - (c - b) + 1).toNat : Nat)) - max (c - e) (c - e)).toNat, X4 a b c e, rfl, fun s0 s1 s3 s4 s6 s7 s8 s9 s10 s11 => ?_, fun s0 s1 s3 s4 s6 s7 s8 s9 s10 s11 => ?_⟩
      · rw [rows_fo (Lk' 7) _ _ rfl, row_it (Lk' 7) _ _ _ _ _ _ _ _ _ _ _ hD0]
        rfl
      · refine cmp_rows (Lk' 7) (q := b - a) ((u_common 6 _).trans ((co1 (Lk' 6) rfl ix ox).trans ?_)) (by omega)
        rw [show max (c - e) (c - e) = c - e from by omega]
    · refine ⟨[X4 a b c e, X4 a' b' c' e'], intsF (max (max (c - e) (c - e)) (c' - e')) (min ((max (c - e) (c - e)) + ((min ((c - e) + ((e - a - (c - b) + 1).toNat : Nat)) ((c - e) + ((e - a - (c - b) + 1).toNat : Nat)) - max (c - e) (c - e)).toNat : Nat)) ((c' - e') + ((e' - a' - (c' - b') + 1).toNat : Nat)) - max (max (c - e) (c - e)) (c' - e')).toNat, X4 a' b' c' e', rfl, fun s0 s1 s3 s4 s6 s7 s8 s9 s10 s11 => ?_, fun s0 s1 s3 s4 s6 s7 s8 s9 s10 s11 => ?_⟩
      · rw [rows_fo (Lk' 7) _ _ rfl, row_it (Lk' 7) _ _ _ _ _ _ _ _ _ _ _ hD0, row_it (Lk' 7) _ _ _ _ _ _ _ _ _ _ _ hD0y]
        rfl
      · refine cmp_rows (Lk' 7) (q := min (b - a) (b' - a')) ((u_common 6 _).trans ((co2 (Lk' 6) rfl ix ox iy oy).trans ?_)) (by omega)
        rw [show max (max (c - e) (c - e)) (c' - e') = max (c - e) (c' - e') from by omega]
    · refine ⟨[X4 a b c e, X4 a' b' c' e', X4 a'' b'' c'' e''], intsF (max (max (max (c - e) (c - e)) (c' - e')) (c'' - e'')) (min ((max (max (c - e) (c - e)) (c' - e')) + ((min ((max (c - e) (c - e)) + ((min ((c - e) + ((e - a - (c - b) + 1).toNat : Nat)) ((c - e) + ((e - a - (c - b) + 1).toNat : Nat)) - max (c - e) (c - e)).toNat : Nat)) ((c' - e') + ((e' - a' - (c' - b') + 1).toNat : Nat)) - max (max (c - e) (c - e)) (c' - e')).toNat : Nat)) ((c'' - e'') + ((e'' - a'' - (c'' - b'') + 1).toNat : Nat)) - max (max (max (c - e) (c - e)) (c' - e')) (c'' - e'')).toNat, X4 a'' b'' c'' e'', rfl, fun s0 s1 s3 s4 s6 s7 s8 s9 s10 s11 => ?_, fun s0 s1 s3 s4 s6 s7 s8 s9 s10 s11 => ?_⟩
      · rw [rows_fo (Lk' 7) _ _ rfl, row_it (Lk' 7) _ _ _ _ _ _ _ _ _ _ _ hD0, row_it (Lk' 7) _ _ _ _ _ _ _ _ _ _ _ hD0y, row_it (Lk' 7) _ _ _ _ _ _ _ _ _ _ _ hD0z]
        rfl
      · refine cmp_rows (Lk' 7) (q := min (min (b - a) (b' - a')) (b'' - a'')) ((u_common 6 _).trans ((co3 (Lk' 6) rfl ix ox iy oy iz oz).trans ?_)) (by omega)
        rw [show max (max (max (c - e) (c - e)) (c' - e')) (c'' - e'') = max (max (c - e) (c' - e')) (c'' - e'') from by omega]
  obtain ⟨R, D2, r6, hR, h10, h11s⟩ := ex
  rw [u_law]
  exact law_body (Lk' 7) h1 h11 h31 hD0 (s_delay hx 2) (s_off hx 2) f0 f1 (by rw [ints_len]; omega) ht hu hD1 (h7 _ _ _ _ _ _ _ _) h23 hR (h10 _ _ _ _ _ _ _ _ _ _) (h11s _ _ _ _ _ _ _ _ _ _) hlate hoffL h24 hrep hrej
end Lw
theorem PySem.Challenge.cw_timevote_k52_exchanges_holds : PySem.Challenge.rw_timevote_k52_exchanges.Holds :=
  Lw.holds fun ns hl => ⟨[], congrFun (Lw.law_true ns hl) []⟩

end
