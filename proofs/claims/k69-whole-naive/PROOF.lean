import PyProof.Rows.All
import HandS.ForMost
import HandS.Strs
import HandS.SetFor
import HandS.SortOrd
import HandS.SortInts
import KE.KSortTupAny
import HandS.ForExc
import HandS.Deep
import HandS.Zip
import HandS.IsInst
import HandS.Style
import HandS.Wide
import HandS.TryOnly
import HandS.ExcIs
import HandS.TupAny
import HandS.TupLe
import HandS.Flow
import HandS.SortRule
import HandS.RevTup
import HandS.Conv
import PyProof.AutoSeq1
import HandS.Head0
import HandS.Head1
import HandS.Head2
import HandS.HeadEnd
import HandS.HeadHook1
import HandS.HeadHook2
import HandS.Star
import HandS.StrMore
import KE.DataMinMax
import KE.SortData
import HandS.Defaults
import PySem.Challenge.RW_timevote_k69_whole_naive
set_option Elab.async false
set_option linter.all false
set_option maxRecDepth 100000
/-! A verified interpreter of the part of the language that the claim uses, sound over the layer by hand; then the law in plain Lean. By an AI agent. -/
section
/-! A small interpreter of the Python that the laws use: values by value, names by slot. Core Lean alone. -/
namespace Py
abbrev Tx := List Nat

inductive D where
  | non | bl (b : Bool) | int (i : Int) | str (s : Tx) | tup (xs : List D) | lst (xs : List D)
  | scr (xs : List D) | fn (f : Nat) | loc (n : Nat) | exc (c : Nat) | clo (l : Nat) (xs : List D)
deriving Inhabited

inductive Cell where
  | lst (xs : List D) | ins (c : Nat) (fs : List (Nat × D)) | dct (kvs : List (Int × D))
abbrev Store := List Cell

/-! ### results -/
inductive Res (α : Type) where
  | ok (a : α) (w : Store) | exc (c : Nat) (w : Store) | stuck
def M (α : Type) := Store → Res α
def ret {α} (a : α) : M α := fun w => .ok a w
def fail {α} : M α := fun _ => .stuck
def rse {α} (c : Nat) : M α := fun w => .exc c w
def bnd {α β} (m : M α) (f : α → M β) : M β := fun w => match m w with
  | .ok a w' => f a w'
  | .exc c w' => .exc c w'
  | .stuck => .stuck
def lif {α} : Option α → M α
  | some a => ret a
  | none => fail
/-- what may not raise -/
def noexc {α} (m : M α) : M α := fun w => match m w with
  | .ok a w' => .ok a w'
  | _ => .stuck

inductive Slot where
  | none | v (d : D) | o (xs : List D) | x (n : Nat)
deriving Inhabited
abbrev Env := List Slot

inductive SRes where
  | nx (r : Env) (w : Store) | rt (d : D) (w : Store) | ex (c : Nat) (r : Env) (w : Store) | stuck
def SM := Store → SRes
def nextS (r : Env) : SM := fun w => .nx r w
def retS (d : D) : SM := fun w => .rt d w
def rseS (c : Nat) (r : Env) : SM := fun w => .ex c r w
def failS : SM := fun _ => .stuck
def bndE {α} (r : Env) (m : M α) (k : α → SM) : SM := fun w => match m w with
  | .ok a w' => k a w'
  | .exc c w' => .ex c r w'
  | .stuck => .stuck
def seqS (m : SM) (k : Env → SM) : SM := fun w => match m w with
  | .nx r w' => k r w'
  | .rt d w' => .rt d w'
  | .ex c r w' => .ex c r w'
  | .stuck => .stuck

@[simp] theorem bnd_ret {α β} (a : α) (f : α → M β) : bnd (ret a) f = f a := Eq.trans rfl rfl
@[simp] theorem bnd_fail {α β} (f : α → M β) : bnd fail f = fail := Eq.trans rfl rfl
@[simp] theorem bnd_rse {α β} (c : Nat) (f : α → M β) : bnd (rse c) f = rse c := Eq.trans rfl rfl
@[simp] theorem bnd_bnd {α β γ} (m : M α) (f : α → M β) (g : β → M γ) : bnd (bnd m f) g = bnd m fun a => bnd (f a) g := by
  funext w
  simp only [bnd]
  cases m w <;> rfl
@[simp] theorem lif_some {α} (a : α) : lif (some a) = ret a := Eq.trans rfl rfl
@[simp] theorem lif_none {α} : lif (none : Option α) = fail := Eq.trans rfl rfl
@[simp] theorem noexc_ret {α} (a : α) : noexc (ret a) = ret a := Eq.trans rfl rfl
@[simp] theorem bndE_ret {α} (r : Env) (a : α) (k : α → SM) : bndE r (ret a) k = k a := Eq.trans rfl rfl
@[simp] theorem bndE_rse {α} (r : Env) (c : Nat) (k : α → SM) : bndE r (rse c) k = rseS c r := Eq.trans rfl rfl
@[simp] theorem bndE_bnd {α β} (r : Env) (m : M α) (f : α → M β) (k : β → SM) : bndE r (bnd m f) k = bndE r m fun a => bndE r (f a) k := by
  funext w
  simp only [bnd, bndE]
  cases m w <;> rfl
@[simp] theorem seqS_next (r : Env) (k : Env → SM) : seqS (nextS r) k = k r := Eq.trans rfl rfl
@[simp] theorem seqS_ret (d : D) (k : Env → SM) : seqS (retS d) k = retS d := Eq.trans rfl rfl
@[simp] theorem seqS_rse (c : Nat) (r : Env) (k : Env → SM) : seqS (rseS c r) k = rseS c r := Eq.trans rfl rfl
@[simp] theorem seqS_bndE {α} (r : Env) (m : M α) (f : α → SM) (k : Env → SM) : seqS (bndE r m f) k = bndE r m fun a => seqS (f a) k := by
  funext w
  simp only [seqS, bndE]
  cases m w <;> rfl
@[simp] theorem seqS_seqS (m : SM) (f k : Env → SM) : seqS (seqS m f) k = seqS m fun r => seqS (f r) k := by
  funext w
  simp only [seqS]
  cases m w <;> rfl
@[simp] theorem seqS_ite {p : Prop} [Decidable p] (a b : SM) (k : Env → SM) : seqS (if p then a else b) k = if p then seqS a k else seqS b k := by
  split <;> rfl

/-! ### values -/
abbrev LIM : Nat := 16777216
mutual
/-- Python's == -/
def eqD : D → D → Bool
  | .non, .non => true
  | .bl a, .bl b => a == b
  | .bl a, .int j => (if a then 1 else 0) == j
  | .int i, .bl b => i == (if b then 1 else 0)
  | .int i, .int j => i == j
  | .str x, .str y => x == y
  | .tup xs, .tup ys => eqL xs ys
  | .lst xs, .lst ys => eqL xs ys
  | .scr xs, .lst ys => eqL xs ys
  | _, _ => false
def eqL : List D → List D → Bool
  | [], [] => true
  | x :: xs, y :: ys => eqD x y && eqL xs ys
  | [], _ :: _ => false
  | _ :: _, [] => false
end
/-- plain data no deeper than n -/
def shp : Nat → D → Bool
  | _, .non => true
  | _, .bl _ => true
  | _, .int _ => true
  | _, .str _ => true
  | n + 1, .tup xs => xs.all (shp n)
  | n + 1, .lst xs => xs.all (shp n)
  | _, _ => false
def shS : D → Bool
  | .scr xs => xs.all (shp 1)
  | d => shp 8 d
def txLt : Tx → Tx → Bool
  | [], [] => false
  | [], _ :: _ => true
  | _ :: _, [] => false
  | x :: xs, y :: ys => if x < y then true else if y < x then false else txLt xs ys
def insB {α} (lt : α → α → Bool) (x : α) : List α → List α
  | [] => [x]
  | y :: ys => if lt y x then y :: insB lt x ys else x :: y :: ys
def isort {α} (lt : α → α → Bool) : List α → List α
  | [] => []
  | x :: xs => insB lt x (isort lt xs)
/-! what a sort takes: texts, or tuples of ints and texts of one shape -/
def ltI : D → D → Bool
  | .int i, .int j => decide (i < j)
  | .int _, .str _ => true
  | .str x, .str y => txLt x y
  | _, _ => false
def ltFl : List D → List D → Bool
  | [], [] => false
  | [], _ :: _ => true
  | _ :: _, [] => false
  | x :: r, y :: t => ltI x y || (!ltI y x && ltFl r t)
def ltF : D → D → Bool
  | .tup a, .tup b => ltFl a b
  | .str a, .str b => txLt a b
  | _, _ => false
def shpF (sh : Nat → Bool) : Nat → List D → Bool
  | _, [] => true
  | i, .int _ :: r => !sh i && shpF sh (i + 1) r
  | i, .str _ :: r => sh i && shpF sh (i + 1) r
  | _, _ :: _ => false
def tupF (sh : Nat → Bool) : D → Bool
  | .tup [] => false
  | .tup xs => shpF sh 0 xs
  | _ => false
def strF : D → Bool
  | .str _ => true
  | _ => false
def shapes : List (Nat → Bool) := [fun _ => false, fun _ => true, fun i => i == 0, fun i => i == 2]
def sortOk (xs : List D) : Bool := decide (xs.length < 2) || (xs.all strF || shapes.any fun sh => xs.all (tupF sh))
def sortD (xs : List D) : Option (List D) := if sortOk xs then some (isort ltF xs) else none
/-- no equal ones: the first of each -/
def dedup : List D → List D
  | [] => []
  | x :: xs => x :: (dedup xs).filter fun y => !eqD x y
/-- the first of the greatest ones (of the least ones by the turned order) -/
def bestB {α} (lt : α → α → Bool) : α → List α → α
  | b, [] => b
  | b, x :: xs => bestB lt (if lt b x then x else b) xs

def ixN (n : Nat) (i : Int) : Option Nat := if 0 ≤ i then (if i < n then some i.toNat else none) else if -(n : Int) ≤ i then some (i + n).toNat else none
def sIx (n d : Nat) : Option Int → Nat
  | none => d
  | some v => if v < 0 then (v + n).toNat else min v.toNat n
def cut {α} (xs : List α) (lo hi : Option Int) : List α := (xs.drop (sIx xs.length 0 lo)).take (sIx xs.length xs.length hi - sIx xs.length 0 lo)

inductive Bop | add | sub | mul | fdiv | mod | pow
deriving DecidableEq
inductive Cop | eq | ne | lt | le | gt | ge | inn | nin
deriving DecidableEq
inductive Ty | int | bool | str | list | tuple
deriving DecidableEq

def small (i : Int) : Bool := decide (-18446744073709551616 < i) && decide (i < 18446744073709551616)
def binD : Bop → D → D → Option D
  | .add, .int i, .int j => some (.int (i + j))
  | .add, .int i, .bl b => some (.int (i + if b then 1 else 0))
  | .add, .str x, .str y => if x.length + y.length ≤ LIM then some (.str (x ++ y)) else none
  | .add, .tup xs, .tup ys => if xs.length + ys.length ≤ LIM then some (.tup (xs ++ ys)) else none
  | .add, .lst xs, .lst ys => if xs.length + ys.length ≤ LIM then some (.lst (xs ++ ys)) else none
  | .sub, .int i, .int j => some (.int (i - j))
  | .mul, .int i, .int j => if small i || small j then some (.int (i * j)) else none
  | .mul, .lst xs, .int k => if 0 ≤ k ∧ k ≤ LIM ∧ xs.length * k.toNat ≤ LIM then some (.lst (List.replicate k.toNat xs).flatten) else none
  | .fdiv, .int i, .int j => if 0 < j ∧ j < 18446744073709551616 then some (.int (i / j)) else none
  | .mod, .int i, .int j => if 0 < j then some (.int (i % j)) else none
  | .pow, .int i, .int j => if 0 ≤ j ∧ j ≤ 1000 ∧ small i = true then some (.int (i ^ j.toNat)) else none
  | _, _, _ => none
def isInfix (x y : Tx) : Bool := (List.range (y.length + 1)).any fun i => (y.drop i).take x.length == x
def inD (x : D) : D → Option Bool
  | .lst ys => if shp 8 x && ys.all (shp 8) then some (ys.any fun y => eqD y x) else none
  | .tup ys => if shp 8 x && ys.all (shp 8) then some (ys.any fun y => eqD y x) else none
  | .str t => match x with
    | .str [c] => some (t.contains c)
    | _ => none
  | _ => none
def cmpD : Cop → D → D → Option Bool
  | .eq, x, y => if shS x && shp 8 y then some (eqD x y) else none
  | .ne, x, y => if shS x && shp 8 y then some (!eqD x y) else none
  | .lt, .int i, .int j => some (decide (i < j))
  | .lt, .str x, .str y => some (txLt x y)
  | .le, .int i, .int j => some (decide (i ≤ j))
  | .gt, .int i, .int j => some (decide (j < i))
  | .gt, .str x, .str y => some (txLt y x)
  | .ge, .int i, .int j => some (decide (j ≤ i))
  | .inn, x, y => inD x y
  | .nin, x, y => (inD x y).map (!·)
  | _, _, _ => none
def isTy : Ty → D → Option Bool
  | .int, .int _ => some true
  | .int, .bl _ => some true
  | .int, .non => some false
  | .int, .str _ => some false
  | .int, .tup _ => some false
  | .int, .lst _ => some false
  | .bool, .bl _ => some true
  | .bool, .int _ => some false
  | .bool, .non => some false
  | .bool, .str _ => some false
  | .bool, .tup _ => some false
  | .bool, .lst _ => some false
  | .str, .str _ => some true
  | .str, .int _ => some false
  | .str, .bl _ => some false
  | .str, .non => some false
  | .str, .tup _ => some false
  | .str, .lst _ => some false
  | .list, .lst _ => some true
  | .list, .int _ => some false
  | .list, .bl _ => some false
  | .list, .non => some false
  | .list, .str _ => some false
  | .list, .tup _ => some false
  | .tuple, .tup _ => some true
  | .tuple, .int _ => some false
  | .tuple, .bl _ => some false
  | .tuple, .non => some false
  | .tuple, .str _ => some false
  | .tuple, .lst _ => some false
  | _, _ => none
def subD : D → D → Option D
  | .scr xs, .int i => (ixN xs.length i).bind fun j => xs[j]?
  | .lst xs, .int i => (ixN xs.length i).bind fun j => xs[j]?
  | .tup xs, .int i => (ixN xs.length i).bind fun j => xs[j]?
  | .str cs, .int i => if cs.length ≤ LIM then ((ixN cs.length i).bind fun j => cs[j]?).map fun c => .str [c] else none
  | _, _ => none
def slcD : D → Option Int → Option Int → Option D
  | .lst xs, lo, hi => some (.lst (cut xs lo hi))
  | .tup xs, lo, hi => some (.tup (cut xs lo hi))
  | .str cs, lo, hi => if cs.length ≤ LIM then some (.str (cut cs lo hi)) else none
  | _, _, _ => none
def toInts : List D → Option (List Int)
  | [] => some []
  | .int i :: r => (toInts r).map (i :: ·)
  | _ => none
def toBls : List D → Option (List Bool)
  | [] => some []
  | .bl b :: r => (toBls r).map (b :: ·)
  | _ => none
def intsF (lo : Int) : Nat → List D
  | 0 => []
  | n + 1 => .int lo :: intsF (lo + 1) n
def rngOk (i j : Int) : Bool := decide (-4611686018427387904 ≤ i) && decide (i < 4611686018427387904) && decide (-4611686018427387904 ≤ j) && decide (j < 4611686018427387904) && decide (j - i ≤ 16777216)
def rngD (i j : Int) : Option (List D) := if rngOk i j then some (intsF i (j - i).toNat) else none
/-- what a for walks -/
def itD : D → Option (List D)
  | .lst xs => some xs
  | .tup xs => some xs
  | .str cs => if cs.length ≤ LIM then some (cs.map fun c => .str [c]) else none
  | _ => none
def zipD : List D → List D → List D
  | x :: xs, y :: ys => .tup [x, y] :: zipD xs ys
  | _, _ => []
def enumD (i : Int) : List D → List D
  | [] => []
  | x :: xs => .tup [.int i, x] :: enumD (i + 1) xs

def zipDD : D → D → Option (List D)
  | .lst xs, .lst ys => if xs.length ≤ LIM then some (zipD xs ys) else none
  | .tup xs, .tup ys => if xs.length ≤ LIM then some (zipD xs ys) else none
  | _, _ => none
def enumDD : D → Option (List D)
  | .lst xs => if xs.length ≤ LIM then some (enumD 0 xs) else none
  | _ => none

inductive Blt | len | abs | max1 | min1 | max2 | min2 | sum | any | all | sorted | sset | tuple | list | lrng1 | lrng2 | int | str | sortedI | max1I | min1I | ssetI | sortedN
deriving DecidableEq
def lenD : List D → Option D
  | [.scr xs] => some (.int xs.length)
  | [.lst xs] => some (.int xs.length)
  | [.tup xs] => some (.int xs.length)
  | [.str cs] => if cs.length ≤ LIM then some (.int cs.length) else none
  | _ => none
def absD : List D → Option D
  | [.int i] => some (.int (if i < 0 then -i else i))
  | _ => none
def max2D : List D → Option D
  | [.int i, .int j] => some (.int (if j > i then j else i))
  | _ => none
def min2D : List D → Option D
  | [.int i, .int j] => some (.int (if j < i then j else i))
  | _ => none
mutual
/-- Python's < on data that are alike -/
def ltG : D → D → Bool
  | .int i, .int j => decide (i < j)
  | .str x, .str y => txLt x y
  | .tup xs, .tup ys => ltGl xs ys
  | _, _ => false
def ltGl : List D → List D → Bool
  | [], [] => false
  | [], _ :: _ => true
  | _ :: _, [] => false
  | x :: xs, y :: ys => if eqD x y then ltGl xs ys else ltG x y
end
mutual
def likeD : D → D → Bool
  | .int _, .int _ => true
  | .str _, .str _ => true
  | .tup xs, .tup ys => likeL xs ys
  | _, _ => false
def likeL : List D → List D → Bool
  | x :: xs, y :: ys => likeD x y && likeL xs ys
  | [], _ => true
  | _ :: _, [] => true
end
def allLike (xs : List D) : Bool := xs.all fun x => shp 6 x && xs.all fun y => likeD x y
def full : D → Bool
  | .tup (_ :: _) => true
  | _ => false
def atom : D → Bool
  | .int _ => true
  | .str _ => true
  | _ => false
def max1D : List D → Option D
  | [.lst (x :: xs)] => if allLike (x :: xs) then some (bestB ltG x xs) else none
  | _ => none
def min1D : List D → Option D
  | [.lst (x :: xs)] => if allLike (x :: xs) then some (bestB (fun a b => ltG b a) x xs) else none
  | _ => none
def isTp : D → Bool
  | .tup _ => true
  | _ => false
/-- tuples, the empty one first -/
def mixed : List D → Bool
  | .tup [] :: r => r.all isTp
  | _ => false
/-- sorted of data of any depth -/
def sortedND : List D → Option D
  | [.lst xs] => if allLike xs && ((mixed xs || (xs.all full || xs.all atom)) && decide (xs.length ≤ LIM)) then some (.lst (xs.mergeSort fun a b => !ltG b a)) else none
  | _ => none
def sumD : List D → Option D
  | [.lst xs] => (toInts xs).map fun ns => .int ns.sum
  | _ => none
def anyD : List D → Option D
  | [.lst xs] => (toBls xs).map fun bs => .bl (bs.any id)
  | _ => none
def allD : List D → Option D
  | [.lst xs] => (toBls xs).map fun bs => .bl (bs.all id)
  | _ => none
def sortedD : List D → Option D
  | [.lst xs] => (sortD xs).map .lst
  | [.tup xs] => (sortD xs).map .lst
  | _ => none
def ssetD : List D → Option D
  | [.lst xs] => (sortD (dedup xs)).map .lst
  | _ => none
def tupleD : List D → Option D
  | [.lst xs] => some (.tup xs)
  | [.tup xs] => some (.tup xs)
  | _ => none
def listD : List D → Option D
  | [.lst xs] => some (.lst xs)
  | [.tup xs] => some (.lst xs)
  | _ => none
def lrng1D : List D → Option D
  | [.int j] => (rngD 0 j).map .lst
  | _ => none
def lrng2D : List D → Option D
  | [.int i, .int j] => (rngD i j).map .lst
  | _ => none
def indexD (xs : List D) (x : D) : Option D := if shp 8 x && xs.all (shp 8) then (xs.findIdx? fun y => eqD y x).map fun (i : Nat) => D.int (i : Int) else none
/-- the place of a letter in a text -/
def sidxD (cs : Tx) : D → Option D
  | .str [c] => (cs.findIdx? fun x => x == c).map fun (i : Nat) => .int (i : Int)
  | _ => none
def countD (xs : List D) (x : D) : Option D := if shp 8 x && xs.all (shp 8) then some (.int ((xs.filter fun y => eqD y x).length)) else none
def sortInts (ns : List Int) : List Int := ns.mergeSort (fun a b => decide (a ≤ b))
def sortedID : List D → Option D
  | [.lst xs] => (toInts xs).map fun ns => .lst ((sortInts ns).map .int)
  | _ => none
def max1ID : List D → Option D
  | [.lst xs] => (toInts xs).bind fun ns => ns.max?.map .int
  | _ => none
def min1ID : List D → Option D
  | [.lst xs] => (toInts xs).bind fun ns => ns.min?.map .int
  | _ => none
/-- into an ascending list without equal ones -/
def uins (x : Int) : List Int → List Int
  | [] => [x]
  | y :: ys => if x < y then x :: y :: ys else if x = y then y :: ys else y :: uins x ys
def usort (ns : List Int) : List Int := ns.foldr uins []
def ssetID : List D → Option D
  | [.lst xs] => (toInts xs).bind fun ns => if ns.length < 64 then some (.lst ((usort ns).map .int)) else none
  | _ => none
def bltD : Blt → List D → Option D
  | .len => lenD | .abs => absD | .max1 => max1D | .min1 => min1D | .max2 => max2D | .min2 => min2D | .sum => sumD | .any => anyD | .all => allD
  | .sorted => sortedD | .sset => ssetD | .tuple => tupleD | .list => listD | .lrng1 => lrng1D | .lrng2 => lrng2D | .sortedI => sortedID | .max1I => max1ID | .min1I => min1ID | .ssetI => ssetID | .sortedN => sortedND
  | _ => fun _ => none

/-! ### the syntax -/
inductive Tgt
  | nm (i : Nat)
  | tp (is : List Nat)
mutual
inductive E where
  | cst (d : D)
  | var (i : Nat)
  | peek (i : Nat)
  | glb (x : Nat)
  | fnv (f : Nat)
  | bin (o : Bop) (a b : E)
  | neg (a : E)
  | not (a : E)
  | and (a b : E)
  | or (a b : E)
  | cmp (o : Cop) (a b : E)
  | cmp2 (o o' : Cop) (a b c : E)
  | cmp3 (o o' o'' : Cop) (a b c d : E)
  | isC (neg : Bool) (a : E) (d : D)
  | ite (c a b : E)
  | call (f : Nat) (es : Es)
  | calv (f : E) (es : Es)
  | blt (b : Blt) (es : Es)
  | b1 (b : Blt) (a : E)
  | b2 (b : Blt) (a a' : E)
  | idx (a e : E)
  | sidx (cs : Tx) (e : E)
  | cnt (a e : E)
  | isi (a : E) (t : Ty)
  | ise (i : Nat) (k : Nat)
  | sub (a i : E)
  | slL (a lo : E)
  | slH (a hi : E)
  | slB (a lo hi : E)
  | rev (a : E)
  | tup (es : Es)
  | lst (es : Es)
  | cmp0 (t : Tgt) (it : It) (e : E)
  | cmpi (t : Tgt) (it : It) (c e : E)
  | stk
  | cell (a : E)
  | newI (c : Nat) (es : Es)
  | fld (a : E) (x : Nat)
  | meth (c x : Nat) (a : E) (es : Es)
  | subC (a i : E)
  | cmpC (o : Cop) (a b : E)
  | isE (n : Bool) (a : E)
  | tupC (a : E)
  | lstC (a : E)
  | appC (a e : E)
  | popC (a : E)
  | insC (a i e : E)
  | isiC (a : E) (t : Ty)
  | isO (a : E) (c : Nat)
  | lenO (c x : Nat) (a : E)
  | eqO (n : Bool) (c x : Nat) (a b : E)
  | newD
  | getD (a k e : E)
  | cmpL (is : List Nat) (a e : E)
  | cmpS (o : Cop) (a b : E)
  | callF (f : Nat) (es : Es)
  | methF (c x : Nat) (a : E) (es : Es)
inductive Es where
  | nil
  | cons (e : E) (r : Es)
inductive It where
  | seq (a : E)
  | rng1 (a : E)
  | rng2 (a b : E)
  | zip (a b : E)
  | enum (a : E)
end
mutual
inductive S where
  | asg (i : Nat) (e : E)
  | own (i : Nat) (e : E)
  | par (ts : List (Bool × Nat)) (es : Es)
  | unp (is : List Nat) (e : E)
  | app (i : Nat) (e : E)
  | ext (i : Nat) (e : E)
  | popA (j i : Nat)
  | popS (j i : Nat) (k : Int)
  | setL (i : Nat) (k : Int) (e : E)
  | frz (i : Nat)
  | exp (e : E)
  | ifs (c : E) (t f : Ss)
  | fo (t : Tgt) (it : It) (b : Ss)
  | whl (n : Nat) (c : E) (b : Ss)
  | retE (e : E)
  | retO (i : Nat)
  | retN
  | rse (c : Nat)
  | trx (b : Ss) (x : Option Nat) (s : Ss)
  | stk
  | setF (i x : Nat) (e : E)
  | setFs (i : Nat) (xs : List Nat) (e : E)
  | setK (a k e : E)
  | setC2 (a i j d e : E)
inductive Ss where
  | nil
  | cons (s : S) (r : Ss)
end

/-! ### the interpreter -/
def Env.get (r : Env) (i : Nat) : Slot := r.getD i .none
def Slot.val : Slot → Option D
  | .v d => some d
  | _ => Option.none
def Slot.own : Slot → Option (List D)
  | .o xs => some xs
  | _ => Option.none
def Slot.exc : Slot → Option Nat
  | .x n => some n
  | _ => Option.none
def setAll (r : Env) : List Nat → List D → Option Env
  | [], [] => some r
  | i :: is, d :: ds => setAll (r.set i (.v d)) is ds
  | _, _ => none
def unpD : D → Option (List D)
  | .tup xs => some xs
  | .lst xs => some xs
  | _ => none
def lstD : D → Option (List D)
  | .lst xs => some xs
  | _ => none
def bindT (r : Env) : Tgt → D → Option Env
  | .nm i, d => some (r.set i (.v d))
  | .tp is, .tup xs => setAll r is xs
  | .tp is, _ => none
def wipeT (r : Env) : Tgt → Env
  | .nm i => r.set i .none
  | .tp is => is.foldr (fun i r => r.set i .none) r
def tru : D → Option Bool
  | .bl b => some b
  | _ => none
def asInt : D → Option Int
  | .int i => some i
  | _ => none
def slotOf (own : Bool) (d : D) : Option Slot := if own then (match d with | .lst xs => some (.o xs) | _ => none) else some (.v d)
def setPar (r : Env) : List (Bool × Nat) → List D → Option Env
  | [], [] => some r
  | (b, i) :: ts, d :: ds => (slotOf b d).bind fun s => setPar (r.set i s) ts ds
  | _, _ => none

/-- a comprehension's turns -/
def compM {α β : Type} (xs : List α) (step : α → M (Option β)) : M (List β) := match xs with
  | [] => ret []
  | x :: r => bnd (step x) fun o => bnd (compM r step) fun ys => ret (match o with | some y => y :: ys | none => ys)
/-- a for's turns -/
def forS {α : Type} (xs : List α) (step : Env → α → SM) (r : Env) : SM := match xs with
  | [] => nextS r
  | x :: xs => seqS (step r x) (forS xs step)
def whileS : Nat → (Env → M D) → (Env → SM) → Env → SM
  | 0, _, _, _ => failS
  | n + 1, c, b, r => bndE r (bnd (c r) fun d => lif (tru d)) fun k => if k = true then seqS (b r) (whileS n c b) else nextS r

/-- an except suite raises nothing -/
def calmS (m : SM) : SM := fun w => match m w with
  | .ex _ _ _ => .stuck
  | res => res
def catchS (mb : Env → SM) (k : Nat → Env → SM) (r : Env) : SM := fun w => match mb r w with
  | .ex c r' w' => calmS (k c r') w'
  | res => res
def fnD : D → Option Nat
  | .fn f => some f
  | _ => none
def isCD (n : Bool) : D → D → Option D
  | .non, .non => some (.bl (!n))
  | .non, .exc _ => none
  | .non, _ => some (.bl n)
  | .bl b, .bl c => some (.bl (if n then !(b == c) else b == c))
  | _, _ => none
def revD : D → Option D
  | .lst xs => some (.lst xs.reverse)
  | _ => none
def extD : D → Option (List D)
  | .lst xs => some xs
  | .tup xs => some xs
  | _ => none
/-! ### the store -/
def alloc (c : Cell) : M D := fun w => .ok (.loc w.length) (w ++ [c])
def rdC : D → M Cell
  | .loc n => fun w => match w[n]? with
    | some c => .ok c w
    | none => .stuck
  | _ => fail
def wrC : D → Cell → M D
  | .loc n, c => fun w => .ok .non (w.set n c)
  | _, _ => fail
def celL : Cell → Option (List D)
  | .lst xs => some xs
  | _ => none
def celA : Cell → Option (Nat × List (Nat × D))
  | .ins c fs => some (c, fs)
  | _ => none
def celK : Cell → Option (List (Int × D))
  | .dct kvs => some kvs
  | _ => none
def getL (d : D) : M (List D) := bnd (rdC d) fun c => lif (celL c)
def getA (d : D) : M (Nat × List (Nat × D)) := bnd (rdC d) fun c => lif (celA c)
def getK (d : D) : M (List (Int × D)) := bnd (rdC d) fun c => lif (celK c)
/-- in its place, or at the end -/
def putN (f : Nat) (v : D) : List (Nat × D) → List (Nat × D)
  | [] => [(f, v)]
  | (g, x) :: r => if g = f then (g, v) :: r else (g, x) :: putN f v r
def putD (kvs : List (Int × D)) (k : Int) (v : D) : List (Int × D) :=
  if (kvs.any fun kv => decide (kv.1 = k)) = true then kvs.map (fun kv => if kv.1 = k then (kv.1, v) else kv) else kvs ++ [(k, v)]
def valD (kvs : List (Int × D)) (k : Int) : Option D := (kvs.find? fun kv => decide (kv.1 = k)).map (·.2)
def setA (o : D) (x : Nat) (d : D) : M D := bnd (getA o) fun p => if p.2.length < 1000 then wrC o (.ins p.1 (putN x d p.2)) else fail
def setAs (o : D) : List Nat → List D → M D
  | [], [] => ret .non
  | x :: xs, d :: ds => bnd (setA o x d) fun _ => setAs o xs ds
  | _, _ => fail
def nonD : D → Option Unit
  | .non => some ()
  | _ => none
def tupD : D → Option (List D)
  | .tup xs => some xs
  | _ => none
/-- lists of lists in the store, as data -/
def snapM : List D → M (List D)
  | [] => ret []
  | d :: ds => bnd (getL d) fun xs => bnd (snapM ds) fun ys => ret (.lst xs :: ys)
def lenOk : D → Option D
  | .int n => if 0 ≤ n ∧ n < 9223372036854775808 then some (.int n) else none
  | _ => none
structure Lk where
  /-- the defs -/
  φ : Nat → List D → M D
  /-- the constants of the top -/
  g : Nat → D
  /-- of what classes an exception is one -/
  sub : Nat → Nat → Bool
  /-- a class's __init__, its methods -/
  ini : Nat → Option Nat
  mt : Nat → Nat → Option Nat

mutual
def ev (L : Lk) : E → Env → M D
  | .cst d, _ => ret d
  | .var i, r => lif (r.get i).val
  | .peek i, r => lif ((r.get i).own.map .lst)
  | .glb x, _ => ret (L.g x)
  | .fnv f, _ => ret (.fn f)
  | .bin o a b, r => bnd (ev L a r) fun x => bnd (ev L b r) fun y => lif (binD o x y)
  | .neg a, r => bnd (ev L a r) fun x => lif ((asInt x).map fun i => .int (-i))
  | .not a, r => bnd (ev L a r) fun x => lif ((tru x).map fun b => .bl (!b))
  | .and a b, r => bnd (ev L a r) fun x => bnd (lif (tru x)) fun k => if k = true then ev L b r else ret (.bl false)
  | .or a b, r => bnd (ev L a r) fun x => bnd (lif (tru x)) fun k => if k = true then ret (.bl true) else ev L b r
  | .cmp o a b, r => bnd (ev L a r) fun x => bnd (ev L b r) fun y => lif ((cmpD o x y).map .bl)
  | .cmp2 o o' a b c, r => bnd (ev L a r) fun x => bnd (ev L b r) fun y => bnd (lif (cmpD o x y)) fun k => if k = true then bnd (ev L c r) fun z => lif ((cmpD o' y z).map .bl) else ret (.bl false)
  | .cmp3 o o' o'' a b c d, r => bnd (ev L a r) fun x => bnd (ev L b r) fun y => bnd (lif (cmpD o x y)) fun k => if k = true then
      bnd (ev L c r) fun z => bnd (lif (cmpD o' y z)) fun k => if k = true then bnd (ev L d r) fun u => lif ((cmpD o'' z u).map .bl) else ret (.bl false)
      else ret (.bl false)
  | .isC n a d, r => bnd (ev L a r) fun x => lif (isCD n d x)
  | .ite c a b, r => bnd (ev L c r) fun x => bnd (lif (tru x)) fun k => if k = true then ev L a r else ev L b r
  | .call f es, r => bnd (evs L es r) fun xs => L.φ f xs
  | .calv f es, r => bnd (ev L f r) fun x => bnd (lif (fnD x)) fun f => bnd (evs L es r) fun xs => L.φ f xs
  | .blt b es, r => bnd (evs L es r) fun xs => lif (bltD b xs)
  | .b1 b a, r => bnd (ev L a r) fun x => lif (bltD b [x])
  | .b2 b a a', r => bnd (ev L a r) fun x => bnd (ev L a' r) fun y => lif (bltD b [x, y])
  | .sidx cs e, r => bnd (ev L e r) fun y => lif (sidxD cs y)
  | .idx a e, r => bnd (ev L a r) fun x => bnd (lif (lstD x)) fun xs => bnd (ev L e r) fun y => lif (indexD xs y)
  | .cnt a e, r => bnd (ev L a r) fun x => bnd (lif (lstD x)) fun xs => bnd (ev L e r) fun y => lif (countD xs y)
  | .isi a t, r => bnd (ev L a r) fun x => lif ((isTy t x).map .bl)
  | .ise i c, r => lif ((r.get i).exc.map fun n => .bl (L.sub n c))
  | .sub a i, r => bnd (ev L a r) fun x => bnd (ev L i r) fun y => lif (subD x y)
  | .slL a lo, r => bnd (ev L a r) fun x => bnd (ev L lo r) fun y => lif ((asInt y).bind fun i => slcD x (some i) none)
  | .slH a hi, r => bnd (ev L a r) fun x => bnd (ev L hi r) fun y => lif ((asInt y).bind fun i => slcD x none (some i))
  | .slB a lo hi, r => bnd (ev L a r) fun x => bnd (ev L lo r) fun y => bnd (lif (asInt y)) fun i => bnd (ev L hi r) fun z => lif ((asInt z).bind fun j => slcD x (some i) (some j))
  | .rev a, r => bnd (ev L a r) fun x => lif (revD x)
  | .tup es, r => bnd (evs L es r) fun xs => ret (.tup xs)
  | .lst es, r => bnd (evs L es r) fun xs => ret (.lst xs)
  | .cmp0 t it e, r => bnd (evi L it r) fun xs => bnd (compM xs fun x => noexc (bnd (lif (bindT (wipeT r t) t x)) fun r' => bnd (ev L e r') fun y => ret (some y))) fun ys => ret (.lst ys)
  | .cmpi t it c e, r => bnd (evi L it r) fun xs => bnd (compM xs fun x => noexc (bnd (lif (bindT (wipeT r t) t x)) fun r' => bnd (ev L c r') fun k => bnd (lif (tru k)) fun k =>
      if k = true then bnd (ev L e r') fun y => ret (some y) else ret none)) fun ys => ret (.lst ys)
  | .stk, _ => fail
  | .cell a, r => bnd (ev L a r) fun x => bnd (lif (lstD x)) fun xs => alloc (.lst xs)
  | .newI c es, r => bnd (evs L es r) fun xs => bnd (alloc (.ins c [])) fun o => bnd (lif (L.ini c)) fun i => bnd (L.φ i (o :: xs)) fun z => bnd (lif (nonD z)) fun _ => ret o
  | .fld a x, r => bnd (ev L a r) fun o => bnd (getA o) fun p => lif (p.2.lookup x)
  | .meth c x a es, r => bnd (ev L a r) fun o => bnd (getA o) fun p => bnd (lif (if p.1 = c ∧ p.2.lookup x = none then L.mt c x else none)) fun i => bnd (evs L es r) fun xs => L.φ i (o :: xs)
  | .subC a i, r => bnd (ev L a r) fun o => bnd (ev L i r) fun y => bnd (getL o) fun xs => lif (subD (.lst xs) y)
  | .cmpC o a b, r => bnd (ev L a r) fun x => bnd (ev L b r) fun y => bnd (getL x) fun xs => lif ((cmpD o (.lst xs) y).map .bl)
  | .isE n a, r => bnd (ev L a r) fun x => lif ((lstD x).map fun xs => .bl (if n then !xs.isEmpty else xs.isEmpty))
  | .tupC a, r => bnd (ev L a r) fun o => bnd (getL o) fun xs => ret (.tup xs)
  | .lstC a, r => bnd (ev L a r) fun o => bnd (getL o) fun xs => ret (.lst xs)
  | .appC a e, r => bnd (ev L a r) fun o => bnd (getL o) fun _ => bnd (ev L e r) fun d => bnd (getL o) fun xs => if xs.length < LIM then wrC o (.lst (xs ++ [d])) else fail
  | .popC a, r => bnd (ev L a r) fun o => bnd (getL o) fun xs => bnd (lif xs.getLast?) fun d => bnd (wrC o (.lst xs.dropLast)) fun _ => ret d
  | .insC a i e, r => bnd (ev L a r) fun o => bnd (getL o) fun _ => bnd (ev L i r) fun k => bnd (ev L e r) fun d => bnd (getL o) fun xs => bnd (lif (asInt k)) fun k => if 0 ≤ k ∧ k < 1000000 ∧ xs.length < LIM then wrC o (.lst (xs.take k.toNat ++ [d] ++ xs.drop k.toNat)) else fail
  | .isiC a t, r => bnd (ev L a r) fun o => bnd (getL o) fun _ => ret (.bl (decide (t = .list)))
  | .isO a c, r => bnd (ev L a r) fun x => match x with
    | .loc n => bnd (getA (.loc n)) fun p => ret (.bl (p.1 == c))
    | .tup _ => ret (.bl false)
    | _ => fail
  | .lenO c x a, r => bnd (ev L a r) fun o => bnd (getA o) fun p => bnd (lif (if p.1 = c then L.mt c x else none)) fun i => bnd (L.φ i [o]) fun z => lif (lenOk z)
  | .eqO n c x a b, r => bnd (ev L a r) fun o => bnd (ev L b r) fun y => bnd (getA o) fun p => bnd (lif (if p.1 = c then L.mt c x else none)) fun i => bnd (L.φ i [o, y]) fun z => lif ((tru z).map fun k => .bl (if n then !k else k))
  | .newD, _ => alloc (.dct [])
  | .getD a k e, r => bnd (ev L a r) fun o => bnd (getK o) fun _ => bnd (ev L k r) fun y => bnd (ev L e r) fun z => bnd (getK o) fun kvs => lif ((asInt y).map fun k => (valD kvs k).getD z)
  | .cmpL is a e, r => bnd (ev L a r) fun x => bnd (lif (lstD x)) fun xs => bnd (compM xs fun x => noexc (bnd (getL x) fun ys => bnd (lif (bindT (wipeT r (.tp is)) (.tp is) (.tup ys))) fun r' => bnd (ev L e r') fun y => ret (some y))) fun ys => ret (.lst ys)
  | .cmpS o a b, r => bnd (ev L a r) fun x => bnd (lif (lstD x)) fun xs => bnd (ev L b r) fun y => bnd (snapM xs) fun zs => lif ((cmpD o (.lst zs) y).map .bl)
  | .callF f es, r => bnd (evs L es r) fun xs => L.φ f xs
  | .methF c x a es, r => bnd (ev L a r) fun o => bnd (getA o) fun p => bnd (lif (if p.1 = c ∧ p.2.lookup x = none then L.mt c x else none)) fun i => bnd (evs L es r) fun xs => L.φ i (o :: xs)
def evs (L : Lk) : Es → Env → M (List D)
  | .nil, _ => ret []
  | .cons e r, σ => bnd (ev L e σ) fun x => bnd (evs L r σ) fun xs => ret (x :: xs)
def evi (L : Lk) : It → Env → M (List D)
  | .seq a, r => bnd (ev L a r) fun x => lif (itD x)
  | .rng1 a, r => bnd (ev L a r) fun x => lif ((asInt x).bind fun j => rngD 0 j)
  | .rng2 a b, r => bnd (ev L a r) fun x => bnd (ev L b r) fun y => lif ((asInt x).bind fun i => (asInt y).bind fun j => rngD i j)
  | .zip a b, r => bnd (ev L a r) fun x => bnd (ev L b r) fun y => lif (zipDD x y)
  | .enum a, r => bnd (ev L a r) fun x => lif (enumDD x)
end

mutual
def evS (L : Lk) : S → Env → SM
  | .asg i e, r => bndE r (ev L e r) fun d => nextS (r.set i (.v d))
  | .own i e, r => bndE r (bnd (ev L e r) fun d => lif (slotOf true d)) fun s => nextS (r.set i s)
  | .par ts es, r => bndE r (bnd (evs L es r) fun ds => lif (setPar r ts ds)) nextS
  | .unp is e, r => bndE r (bnd (ev L e r) fun d => lif ((unpD d).bind fun ds => setAll r is ds)) nextS
  | .app i e, r => bndE r (bnd (lif (r.get i).own) fun xs => bnd (ev L e r) fun d => lif (if xs.length < LIM then some (r.set i (.o (xs ++ [d]))) else none)) nextS
  | .ext i e, r => bndE r (bnd (lif (r.get i).own) fun xs => bnd (ev L e r) fun d => lif ((extD d).bind fun ys => if xs.length + ys.length ≤ LIM then some (r.set i (.o (xs ++ ys))) else none)) nextS
  | .popA j i, r => bndE r (lif ((r.get i).own.bind fun xs => xs.getLast?.map fun d => (r.set i (.o xs.dropLast)).set j (.v d))) nextS
  | .popS j i k, r => bndE r (lif ((r.get i).own.bind fun xs => xs.getLast?.bind fun d => (subD d (.int k)).map fun e => (r.set i (.o xs.dropLast)).set j (.v e))) nextS
  | .setL i k e, r => bndE r (bnd (ev L e r) fun d => lif ((r.get i).own.bind fun xs => (ixN xs.length k).map fun j => r.set i (.o (xs.set j d)))) nextS
  | .frz i, r => bndE r (lif ((r.get i).own.map fun xs => r.set i (.v (.lst xs)))) nextS
  | .exp e, r => bndE r (ev L e r) fun _ => nextS r
  | .ifs c t f, r => bndE r (bnd (ev L c r) fun x => lif (tru x)) fun k => if k = true then evSs L t r else evSs L f r
  | .fo t it b, r => bndE r (evi L it r) fun xs => forS xs (fun r x => bndE r (lif (bindT r t x)) fun r => evSs L b r) r
  | .whl n c b, r => whileS n (fun r => ev L c r) (fun r => evSs L b r) r
  | .retE e, r => bndE r (ev L e r) retS
  | .retO i, r => bndE r (lif (r.get i).own) fun xs => retS (.lst xs)
  | .retN, _ => retS .non
  | .rse c, r => rseS c r
  | .trx b x s, r => catchS (evSs L b) (fun c r' => match x with
      | some i => seqS (evSs L s (r'.set i (.x c))) (fun r => nextS (r.set i .none))
      | none => evSs L s r') r
  | .stk, _ => failS
  | .setF i x e, r => bndE r (bnd (ev L e r) fun d => bnd (lif (r.get i).val) fun o => setA o x d) fun _ => nextS r
  | .setFs i xs e, r => bndE r (bnd (ev L e r) fun d => bnd (lif (tupD d)) fun ds => bnd (lif (r.get i).val) fun o => setAs o xs ds) fun _ => nextS r
  | .setK a k e, r => bndE r (bnd (ev L e r) fun d => bnd (ev L a r) fun o => bnd (ev L k r) fun y => bnd (lif (asInt y)) fun k => bnd (getK o) fun kvs => if kvs.length < LIM then wrC o (.dct (putD kvs k d)) else fail) fun _ => nextS r
  | .setC2 a i j d e, r => bndE r (bnd (ev L d r) fun d => bnd (ev L e r) fun e => bnd (ev L a r) fun o => bnd (ev L i r) fun y => bnd (lif (asInt y)) fun i => bnd (getL o) fun xs => bnd (lif (ixN xs.length i)) fun k => bnd (wrC o (.lst (xs.set k d))) fun _ =>
      bnd (ev L a r) fun o => bnd (ev L j r) fun y => bnd (lif (asInt y)) fun j => bnd (getL o) fun xs => bnd (lif (ixN xs.length j)) fun k => wrC o (.lst (xs.set k e))) fun _ => nextS r
def evSs (L : Lk) : Ss → Env → SM
  | .nil, r => nextS r
  | .cons s r, σ => seqS (evS L s σ) fun σ' => evSs L r σ'
end

/-- a def: how many parameters, how many names, its body -/
structure Fd where
  np : Nat
  nn : Nat
  body : Ss
def Fd.env (f : Fd) (ds : List D) : Env := ds.map .v ++ List.replicate (f.nn - ds.length) .none
def outM (m : SM) : M D := fun w => match m w with
  | .nx _ w => .ok .non w
  | .rt d w => .ok d w
  | .ex c _ w => .exc c w
  | .stuck => .stuck
def runF (L : Lk) (f : Fd) (ds : List D) : M D := if ds.length = f.np then outM (evSs L f.body (f.env ds)) else fail

structure Prog where
  defs : Nat → Option Fd
  g : Nat → D
  sub : Nat → Nat → Bool
  ini : Nat → Option Nat
  mt : Nat → Nat → Option Nat
def phi (P : Prog) : Nat → Nat → List D → M D
  | 0, _, _ => fail
  | k + 1, f, ds => match P.defs f with
    | some fd => runF ⟨phi P k, P.g, P.sub, P.ini, P.mt⟩ fd ds
    | none => fail
end Py
end
section
namespace Lw
def b_is_integer : Py.Ss := (.cons (.retE (.and (.isi (.var 0) .int) (.not (.isi (.var 0) .bool))))
    .nil)
def f_is_integer : Py.Fd := ⟨1, 1, b_is_integer⟩
def b_is_time : Py.Ss := (.cons (.retE (.and (.call 0 (.cons (.var 0) .nil)) (.cmp2 .le .le (.cst (.int 0)) (.var 0) (.glb 0))))
    .nil)
def f_is_time : Py.Fd := ⟨1, 1, b_is_time⟩
def b_is_name : Py.Ss := (.cons (.retE (.and (.isi (.var 0) .str) (.and (.cmp2 .le .le (.cst (.int 1)) (.blt .len (.cons (.var 0) .nil)) (.glb 2)) (.blt .all (.cons (.cmp0 (.nm 1) (.seq (.var 0)) (.cmp .inn (.var 1) (.glb 3))) .nil)))))
    .nil)
def f_is_name : Py.Fd := ⟨1, 2, b_is_name⟩
def b_is_report : Py.Ss := (.cons (.ifs (.or (.not (.isi (.var 0) .tuple)) (.or (.cmp .ne (.blt .len (.cons (.var 0) .nil)) (.cst (.int 3))) (.not (.call 2 (.cons (.sub (.var 0) (.cst (.int 0))) .nil))))) (.cons (.retE (.cst (.bl false)))
    .nil) .nil)
    (.cons (.retE (.and (.call 1 (.cons (.sub (.var 0) (.cst (.int 1))) .nil)) (.and (.call 1 (.cons (.sub (.var 0) (.cst (.int 2))) .nil)) (.cmp .le (.sub (.var 0) (.cst (.int 1))) (.sub (.var 0) (.cst (.int 2)))))))
    .nil))
def f_is_report : Py.Fd := ⟨1, 1, b_is_report⟩
def b_sources : Py.Ss := (.cons (.retE (.cmp0 (.tp [1, 2, 3]) (.seq (.var 0)) (.var 1)))
    .nil)
def f_sources : Py.Fd := ⟨1, 4, b_sources⟩
def b_are_reports : Py.Ss := (.cons (.ifs (.or (.not (.isi (.var 0) .tuple)) (.cmp .gt (.blt .len (.cons (.var 0) .nil)) (.glb 1))) (.cons (.retE (.cst (.bl false)))
    .nil) .nil)
    (.cons (.ifs (.not (.blt .all (.cons (.cmp0 (.nm 2) (.seq (.var 0)) (.call 3 (.cons (.var 2) .nil))) .nil))) (.cons (.retE (.cst (.bl false)))
    .nil) .nil)
    (.cons (.asg 1 (.call 4 (.cons (.var 0) .nil)))
    (.cons (.retE (.blt .all (.cons (.cmp0 (.tp [3, 4]) (.zip (.var 1) (.slL (.var 1) (.cst (.int 1)))) (.cmp .lt (.var 3) (.var 4))) .nil)))
    .nil))))
def f_are_reports : Py.Fd := ⟨1, 5, b_are_reports⟩
def b_check_reports : Py.Ss := (.cons (.ifs (.not (.call 5 (.cons (.var 0) .nil))) (.cons (.rse 1)
    .nil) .nil)
    .nil)
def f_check_reports : Py.Fd := ⟨1, 1, b_check_reports⟩
def b_right_names : Py.Ss := (.cons (.retE (.cmpi (.tp [2, 3, 4]) (.seq (.var 0)) (.cmp2 .le .le (.var 3) (.var 1) (.var 4)) (.var 2)))
    .nil)
def f_right_names : Py.Fd := ⟨2, 5, b_right_names⟩
def b_right_at : Py.Ss := (.cons (.exp (.call 6 (.cons (.var 0) .nil)))
    (.cons (.ifs (.not (.call 1 (.cons (.var 1) .nil))) (.cons (.rse 2)
    .nil) .nil)
    (.cons (.retE (.call 7 (.cons (.var 0) (.cons (.var 1) .nil))))
    .nil)))
def f_right_at : Py.Fd := ⟨2, 2, b_right_at⟩
def b_borders : Py.Ss := (.cons (.own 1 (.bin .add (.lst (.cons (.cst (.int 0)) .nil)) (.cmp0 (.tp [2, 3, 4]) (.seq (.var 0)) (.var 3))))
    (.cons (.ext 1 (.cmpi (.tp [2, 3, 4]) (.seq (.var 0)) (.cmp .lt (.var 4) (.glb 0)) (.bin .add (.var 4) (.cst (.int 1)))))
    (.cons (.retE (.b1 .ssetI (.peek 1)))
    .nil)))
def f_borders : Py.Fd := ⟨1, 5, b_borders⟩
def b_pieces : Py.Ss := (.cons (.asg 1 (.call 9 (.cons (.var 0) .nil)))
    (.cons (.retE (.cmp0 (.tp [2, 3]) (.zip (.var 1) (.bin .add (.slL (.var 1) (.cst (.int 1))) (.lst (.cons (.bin .add (.glb 0) (.cst (.int 1))) .nil)))) (.tup (.cons (.var 2) (.cons (.bin .sub (.var 3) (.cst (.int 1))) .nil)))))
    .nil))
def f_pieces : Py.Fd := ⟨1, 4, b_pieces⟩
def l0b_profile : Py.Ss := (.cons (.asg 4 (.blt .len (.cons (.call 7 (.cons (.var 0) (.cons (.var 2) .nil))) .nil)))
    (.cons (.ifs (.and (.cmp .ne (.peek 1) (.lst .nil)) (.cmp .eq (.sub (.sub (.peek 1) (.neg (.cst (.int 1)))) (.cst (.int 2))) (.var 4))) (.cons (.popS 2 1 0)
    .nil) .nil)
    (.cons (.app 1 (.tup (.cons (.var 2) (.cons (.var 3) (.cons (.var 4) .nil)))))
    .nil)))
def l0_profile : Py.S := .fo (.tp [2, 3]) (.seq (.call 10 (.cons (.var 0) .nil))) l0b_profile
def b_profile : Py.Ss := (.cons (.exp (.call 6 (.cons (.var 0) .nil)))
    (.cons (.own 1 (.lst .nil))
    (.cons l0_profile
    (.cons (.retO 1)
    .nil))))
def f_profile : Py.Fd := ⟨1, 5, b_profile⟩
def b_are_names : Py.Ss := (.cons (.ifs (.or (.not (.isi (.var 1) .tuple)) (.not (.blt .all (.cons (.cmp0 (.nm 3) (.seq (.var 1)) (.call 2 (.cons (.var 3) .nil))) .nil)))) (.cons (.retE (.cst (.bl false)))
    .nil) .nil)
    (.cons (.asg 2 (.call 4 (.cons (.var 0) .nil)))
    (.cons (.retE (.cmp .eq (.blt .list (.cons (.var 1) .nil)) (.cmpi (.nm 3) (.seq (.var 2)) (.cmp .inn (.var 3) (.var 1)) (.var 3))))
    .nil)))
def f_are_names : Py.Fd := ⟨2, 4, b_are_names⟩
def b_without : Py.Ss := (.cons (.exp (.call 6 (.cons (.var 0) .nil)))
    (.cons (.ifs (.not (.call 12 (.cons (.var 0) (.cons (.var 1) .nil)))) (.cons (.rse 3)
    .nil) .nil)
    (.cons (.retE (.blt .tuple (.cons (.cmpi (.nm 2) (.seq (.var 0)) (.cmp .nin (.sub (.var 2) (.cst (.int 0))) (.var 1)) (.var 2)) .nil)))
    .nil)))
def f_without : Py.Fd := ⟨2, 3, b_without⟩
def b_together : Py.Ss := (.cons (.exp (.call 6 (.cons (.var 0) .nil)))
    (.cons (.exp (.call 6 (.cons (.var 1) .nil)))
    (.cons (.asg 2 (.call 4 (.cons (.var 0) .nil)))
    (.cons (.ifs (.blt .any (.cons (.cmp0 (.nm 3) (.seq (.call 4 (.cons (.var 1) .nil))) (.cmp .inn (.var 3) (.var 2))) .nil)) (.cons (.rse 3)
    .nil) .nil)
    (.cons (.ifs (.cmp .gt (.bin .add (.blt .len (.cons (.var 0) .nil)) (.blt .len (.cons (.var 1) .nil))) (.glb 1)) (.cons (.rse 4)
    .nil) .nil)
    (.cons (.retE (.blt .tuple (.cons (.blt .sorted (.cons (.bin .add (.var 0) (.var 1)) .nil)) .nil)))
    .nil))))))
def f_together : Py.Fd := ⟨2, 4, b_together⟩
def l0b__law_pick : Py.Ss := (.cons (.par [(false, 5), (false, 6)] (.cons (.bin .fdiv (.var 5) (.cst (.int 840))) (.cons (.bin .sub (.var 6) (.cst (.int 1))) .nil)))
    .nil)
def l0__law_pick : Py.S := .whl 100000 (.and (.cmp .gt (.var 5) (.cst (.int 0))) (.cmp .gt (.var 6) (.cst (.int 0)))) l0b__law_pick
def b__law_pick : Py.Ss := (.cons (.asg 3 (.ite (.cmp .ne (.var 0) (.lst .nil)) (.sub (.var 0) (.bin .mod (.var 1) (.blt .len (.cons (.var 0) .nil)))) (.cst (.int 0))))
    (.cons (.par [(false, 5), (false, 6)] (.cons (.bin .fdiv (.var 3) (.bin .pow (.cst (.int 10)) (.cst (.int 18)))) (.cons (.bin .fdiv (.var 1) (.blt .max2 (.cons (.blt .len (.cons (.var 0) .nil)) (.cons (.cst (.int 1)) .nil)))) .nil)))
    (.cons l0__law_pick
    (.cons (.ifs (.cmp .gt (.var 5) (.cst (.int 0))) (.cons (.retE (.bin .mod (.bin .mod (.var 5) (.cst (.int 840))) (.var 2)))
    .nil) .nil)
    (.cons (.asg 4 (.bin .mod (.bin .mul (.bin .add (.bin .mul (.var 3) (.cst (.int 31))) (.bin .mul (.cst (.int 6151)) (.bin .add (.var 1) (.cst (.int 1))))) (.cst (.int 40692))) (.cst (.int 2147483399))))
    (.cons (.retE (.bin .mod (.bin .mod (.bin .add (.bin .mul (.var 4) (.var 4)) (.bin .fdiv (.var 4) (.cst (.int 31)))) (.cst (.int 2147483629))) (.var 2)))
    .nil))))))
def f__law_pick : Py.Fd := ⟨3, 7, b__law_pick⟩
def b__law_value : Py.Ss := (.cons (.own 2 (.lst (.cons (.cst .non) (.cons (.neg (.cst (.int 1))) (.cons (.cst (.bl true)) (.cons (.cst (.str [])) (.cons (.cst (.str [97])) (.cons (.cst (.int 10000)) (.cons (.lst .nil) (.cons (.tup (.cons (.cst (.str [97])) .nil)) (.cons (.tup (.cons (.cst (.str [97])) (.cons (.cst (.int 1)) (.cons (.cst (.int 2)) .nil)))) (.cons (.tup (.cons (.tup (.cons (.cst (.str [97])) (.cons (.cst (.int 2)) (.cons (.cst (.int 1)) .nil)))) .nil)) (.cons (.tup (.cons (.tup (.cons (.cst (.str [97])) (.cons (.cst (.int 1)) .nil))) .nil)) (.cons (.lst (.cons (.cst (.str [97])) (.cons (.cst (.int 1)) (.cons (.cst (.int 2)) .nil)))) .nil))))))))))))))
    (.cons (.ext 2 (.lst (.cons (.tup (.cons (.tup (.cons (.cst (.str [97])) (.cons (.cst (.int 1)) (.cons (.cst (.int 2)) .nil)))) (.cons (.tup (.cons (.cst (.str [97])) (.cons (.cst (.int 1)) (.cons (.cst (.int 2)) .nil)))) .nil))) (.cons (.tup (.cons (.tup (.cons (.cst (.str [98])) (.cons (.cst (.int 1)) (.cons (.cst (.int 2)) .nil)))) (.cons (.tup (.cons (.cst (.str [97])) (.cons (.cst (.int 1)) (.cons (.cst (.int 2)) .nil)))) .nil))) (.cons (.tup (.cons (.tup (.cons (.cst (.str [97, 98, 99, 100])) (.cons (.cst (.int 1)) (.cons (.cst (.int 2)) .nil)))) .nil)) (.cons (.tup (.cons (.tup (.cons (.cst (.str [97])) (.cons (.cst (.int 1)) (.cons (.cst (.bl true)) .nil)))) .nil)) .nil))))))
    (.cons (.ext 2 (.lst (.cons (.tup (.cons (.tup (.cons (.cst (.str [97])) (.cons (.cst (.int 0)) (.cons (.cst (.int 10000)) .nil)))) .nil)) (.cons (.tup (.cons (.lst (.cons (.cst (.str [97])) (.cons (.cst (.int 1)) (.cons (.cst (.int 2)) .nil)))) .nil)) (.cons (.tup (.cons (.tup (.cons (.cst (.str [65])) (.cons (.cst (.int 1)) (.cons (.cst (.int 2)) .nil)))) .nil)) .nil)))))
    (.cons (.retE (.sub (.peek 2) (.call 15 (.cons (.var 0) (.cons (.var 1) (.cons (.cst (.int 19)) .nil))))))
    .nil))))
def f__law_value : Py.Fd := ⟨2, 3, b__law_value⟩
def l0b__law_reports : Py.Ss := (.cons (.asg 5 (.bin .add (.bin .add (.var 1) (.cst (.int 1))) (.bin .mul (.cst (.int 4)) (.var 4))))
    (.cons (.asg 6 (.call 15 (.cons (.var 0) (.cons (.var 5) (.cons (.cst (.int 20)) .nil)))))
    (.cons (.asg 7 (.bin .add (.var 6) (.call 15 (.cons (.var 0) (.cons (.bin .add (.var 5) (.cst (.int 1))) (.cons (.sub (.tup (.cons (.cst (.int 2)) (.cons (.cst (.int 9)) (.cons (.cst (.int 18)) .nil)))) (.call 15 (.cons (.var 0) (.cons (.bin .add (.var 5) (.cst (.int 2))) (.cons (.cst (.int 3)) .nil))))) .nil))))))
    (.cons (.asg 8 (.call 15 (.cons (.var 0) (.cons (.bin .add (.var 5) (.cst (.int 3))) (.cons (.cst (.int 12)) .nil)))))
    (.cons (.ifs (.cmp .eq (.var 8) (.cst (.int 0))) (.cons (.par [(false, 6), (false, 7)] (.cons (.bin .add (.cst (.int 9965)) (.var 6)) (.cons (.blt .min2 (.cons (.bin .add (.cst (.int 9965)) (.var 7)) (.cons (.cst (.int 9999)) .nil))) .nil)))
    .nil) (.cons (.ifs (.cmp .eq (.var 8) (.cst (.int 1))) (.cons (.asg 7 (.bin .add (.cst (.int 9960)) (.var 7)))
    .nil) .nil)
    .nil))
    (.cons (.app 3 (.tup (.cons (.sub (.cst (.str [97, 98, 99, 100, 101, 102, 103, 104, 105, 106])) (.var 4)) (.cons (.var 6) (.cons (.blt .min2 (.cons (.var 7) (.cons (.cst (.int 9999)) .nil))) .nil)))))
    .nil))))))
def l0__law_reports : Py.S := .fo (.nm 4) (.rng1 (.call 15 (.cons (.var 0) (.cons (.var 1) (.cons (.bin .add (.var 2) (.cst (.int 1))) .nil))))) l0b__law_reports
def b__law_reports : Py.Ss := (.cons (.own 3 (.lst .nil))
    (.cons l0__law_reports
    (.cons (.retE (.blt .tuple (.cons (.peek 3) .nil)))
    .nil)))
def f__law_reports : Py.Fd := ⟨3, 9, b__law_reports⟩
def b__law_times : Py.Ss := (.cons (.retE (.bin .add (.b1 .lrng1 (.cst (.int 46))) (.b2 .lrng2 (.cst (.int 9950)) (.cst (.int 10000)))))
    .nil)
def f__law_times : Py.Fd := ⟨0, 0, b__law_times⟩
def l0b__law_right : Py.Ss := (.cons (.ifs (.and (.cmp .le (.var 4) (.var 1)) (.cmp .le (.var 1) (.var 5))) (.cons (.app 2 (.var 3))
    .nil) .nil)
    .nil)
def l0__law_right : Py.S := .fo (.tp [3, 4, 5]) (.seq (.var 0)) l0b__law_right
def b__law_right : Py.Ss := (.cons (.own 2 (.lst .nil))
    (.cons l0__law_right
    (.cons (.retO 2)
    .nil)))
def f__law_right : Py.Fd := ⟨2, 6, b__law_right⟩
def l0b_merged : Py.Ss := (.cons (.ifs (.and (.cmp .ne (.peek 1) (.lst .nil)) (.cmp .le (.var 2) (.bin .add (.sub (.sub (.peek 1) (.neg (.cst (.int 1)))) (.cst (.int 1))) (.cst (.int 1))))) (.cons (.popA 4 1)
    (.cons (.par [(false, 2), (false, 3)] (.cons (.sub (.var 4) (.cst (.int 0))) (.cons (.blt .max2 (.cons (.sub (.var 4) (.cst (.int 1))) (.cons (.var 3) .nil))) .nil)))
    .nil)) .nil)
    (.cons (.app 1 (.tup (.cons (.var 2) (.cons (.var 3) .nil))))
    .nil))
def l0_merged : Py.S := .fo (.tp [2, 3]) (.seq (.blt .sorted (.cons (.var 0) .nil))) l0b_merged
def b_merged : Py.Ss := (.cons (.own 1 (.lst .nil))
    (.cons l0_merged
    (.cons (.retO 1)
    .nil)))
def f_merged : Py.Fd := ⟨1, 5, b_merged⟩
def b_check_liars : Py.Ss := (.cons (.ifs (.or (.not (.call 0 (.cons (.var 0) .nil))) (.not (.cmp2 .le .le (.cst (.int 0)) (.var 0) (.glb 4)))) (.cons (.rse 5)
    .nil) .nil)
    .nil)
def f_check_liars : Py.Fd := ⟨1, 1, b_check_liars⟩
def b_times_with : Py.Ss := (.cons (.retE (.call 20 (.cons (.cmpi (.nm 2) (.seq (.call 10 (.cons (.var 0) .nil))) (.cmp .ge (.blt .len (.cons (.call 7 (.cons (.var 0) (.cons (.sub (.var 2) (.cst (.int 0))) .nil))) .nil)) (.var 1)) (.var 2)) .nil)))
    .nil)
def f_times_with : Py.Fd := ⟨2, 3, b_times_with⟩
def b_possible_times : Py.Ss := (.cons (.retE (.call 22 (.cons (.var 0) (.cons (.bin .sub (.blt .len (.cons (.var 0) .nil)) (.var 1)) .nil))))
    .nil)
def f_possible_times : Py.Fd := ⟨2, 2, b_possible_times⟩
def b_possible : Py.Ss := (.cons (.exp (.call 6 (.cons (.var 0) .nil)))
    (.cons (.exp (.call 21 (.cons (.var 1) .nil)))
    (.cons (.retE (.call 23 (.cons (.var 0) (.cons (.var 1) .nil))))
    .nil)))
def f_possible : Py.Fd := ⟨2, 2, b_possible⟩
def b_hull : Py.Ss := (.cons (.retE (.ite (.cmp .ne (.var 0) (.lst .nil)) (.tup (.cons (.sub (.sub (.var 0) (.cst (.int 0))) (.cst (.int 0))) (.cons (.sub (.sub (.var 0) (.neg (.cst (.int 1)))) (.cst (.int 1))) .nil))) (.cst .non)))
    .nil)
def f_hull : Py.Fd := ⟨1, 1, b_hull⟩
def b_agreed : Py.Ss := (.cons (.exp (.call 6 (.cons (.var 0) .nil)))
    (.cons (.exp (.call 21 (.cons (.var 1) .nil)))
    (.cons (.retE (.call 25 (.cons (.call 23 (.cons (.var 0) (.cons (.var 1) .nil))) .nil)))
    .nil)))
def f_agreed : Py.Fd := ⟨2, 2, b_agreed⟩
def b_most_together : Py.Ss := (.cons (.retE (.blt .max1I (.cons (.cmp0 (.tp [1, 2]) (.seq (.call 10 (.cons (.var 0) .nil))) (.blt .len (.cons (.call 7 (.cons (.var 0) (.cons (.var 1) .nil))) .nil))) .nil)))
    .nil)
def f_most_together : Py.Fd := ⟨1, 3, b_most_together⟩
def b_fewest_liars : Py.Ss := (.cons (.exp (.call 6 (.cons (.var 0) .nil)))
    (.cons (.retE (.bin .sub (.blt .len (.cons (.var 0) .nil)) (.call 27 (.cons (.var 0) .nil))))
    .nil))
def f_fewest_liars : Py.Fd := ⟨1, 1, b_fewest_liars⟩
def b_best_times : Py.Ss := (.cons (.exp (.call 6 (.cons (.var 0) .nil)))
    (.cons (.retE (.call 22 (.cons (.var 0) (.cons (.call 27 (.cons (.var 0) .nil)) .nil))))
    .nil))
def f_best_times : Py.Fd := ⟨1, 1, b_best_times⟩
def l0b__law_ranges : Py.Ss := (.cons (.ifs (.and (.sub (.var 1) (.var 2)) (.isC false (.var 4) .non)) (.cons (.asg 4 (.sub (.var 0) (.var 2)))
    .nil) .nil)
    (.cons (.ifs (.and (.isC true (.var 4) .non) (.or (.cmp .eq (.bin .add (.var 2) (.cst (.int 1))) (.blt .len (.cons (.var 0) .nil))) (.not (.sub (.var 1) (.bin .add (.var 2) (.cst (.int 1))))))) (.cons (.app 3 (.tup (.cons (.var 4) (.cons (.sub (.var 0) (.var 2)) .nil))))
    (.cons (.asg 4 (.cst .non))
    .nil)) .nil)
    .nil))
def l0__law_ranges : Py.S := .fo (.nm 2) (.rng1 (.blt .len (.cons (.var 0) .nil))) l0b__law_ranges
def b__law_ranges : Py.Ss := (.cons (.par [(true, 3), (false, 4)] (.cons (.lst .nil) (.cons (.cst .non) .nil)))
    (.cons l0__law_ranges
    (.cons (.retO 3)
    .nil)))
def f__law_ranges : Py.Fd := ⟨2, 5, b__law_ranges⟩
def b__law_hull : Py.Ss := (.cons (.retE (.ite (.cmp .ne (.var 0) (.lst .nil)) (.tup (.cons (.sub (.sub (.var 0) (.cst (.int 0))) (.cst (.int 0))) (.cons (.sub (.sub (.var 0) (.neg (.cst (.int 1)))) (.cst (.int 1))) .nil))) (.cst .non)))
    .nil)
def f__law_hull : Py.Fd := ⟨1, 1, b__law_hull⟩
def b_check_possible : Py.Ss := (.cons (.exp (.call 6 (.cons (.var 0) .nil)))
    (.cons (.exp (.call 21 (.cons (.var 1) .nil)))
    (.cons (.ifs (.cmp .eq (.call 23 (.cons (.var 0) (.cons (.var 1) .nil))) (.lst .nil)) (.cons (.rse 6)
    .nil) .nil)
    .nil)))
def f_check_possible : Py.Fd := ⟨2, 2, b_check_possible⟩
def b_right_sets : Py.Ss := (.cons (.asg 2 (.cmp0 (.tp [4, 5]) (.seq (.call 10 (.cons (.var 0) .nil))) (.call 7 (.cons (.var 0) (.cons (.var 4) .nil)))))
    (.cons (.retE (.cmpi (.nm 3) (.seq (.var 2)) (.cmp .ge (.blt .len (.cons (.var 3) .nil)) (.bin .sub (.blt .len (.cons (.var 0) .nil)) (.var 1))) (.var 3)))
    .nil))
def f_right_sets : Py.Fd := ⟨2, 6, b_right_sets⟩
def b_surely_right : Py.Ss := (.cons (.exp (.call 32 (.cons (.var 0) (.cons (.var 1) .nil))))
    (.cons (.asg 2 (.call 33 (.cons (.var 0) (.cons (.var 1) .nil))))
    (.cons (.retE (.cmpi (.nm 3) (.seq (.call 4 (.cons (.var 0) .nil))) (.blt .all (.cons (.cmp0 (.nm 4) (.seq (.var 2)) (.cmp .inn (.var 3) (.var 4))) .nil)) (.var 3)))
    .nil)))
def f_surely_right : Py.Fd := ⟨2, 5, b_surely_right⟩
def b_surely_lying : Py.Ss := (.cons (.exp (.call 32 (.cons (.var 0) (.cons (.var 1) .nil))))
    (.cons (.asg 2 (.call 33 (.cons (.var 0) (.cons (.var 1) .nil))))
    (.cons (.retE (.cmpi (.nm 3) (.seq (.call 4 (.cons (.var 0) .nil))) (.not (.blt .any (.cons (.cmp0 (.nm 4) (.seq (.var 2)) (.cmp .inn (.var 3) (.var 4))) .nil))) (.var 3)))
    .nil)))
def f_surely_lying : Py.Fd := ⟨2, 5, b_surely_lying⟩
def b_liar_sets : Py.Ss := (.cons (.exp (.call 32 (.cons (.var 0) (.cons (.var 1) .nil))))
    (.cons (.asg 2 (.cmp0 (.nm 3) (.seq (.call 33 (.cons (.var 0) (.cons (.var 1) .nil)))) (.cmpi (.nm 4) (.seq (.call 4 (.cons (.var 0) .nil))) (.cmp .nin (.var 4) (.var 3)) (.var 4))))
    (.cons (.retE (.b1 .sset (.cmp0 (.nm 3) (.seq (.var 2)) (.blt .tuple (.cons (.var 3) .nil)))))
    .nil)))
def f_liar_sets : Py.Fd := ⟨2, 5, b_liar_sets⟩
def b_is_certain : Py.Ss := (.cons (.exp (.call 6 (.cons (.var 0) .nil)))
    (.cons (.exp (.call 21 (.cons (.var 1) .nil)))
    (.cons (.ifs (.or (.not (.call 1 (.cons (.var 2) .nil))) (.not (.call 1 (.cons (.var 3) .nil)))) (.cons (.rse 2)
    .nil) .nil)
    (.cons (.exp (.call 32 (.cons (.var 0) (.cons (.var 1) .nil))))
    (.cons (.retE (.blt .all (.cons (.cmp0 (.tp [4, 5]) (.seq (.call 23 (.cons (.var 0) (.cons (.var 1) .nil)))) (.and (.cmp .le (.var 2) (.var 4)) (.cmp .le (.var 5) (.var 3)))) .nil)))
    .nil)))))
def f_is_certain : Py.Fd := ⟨4, 6, b_is_certain⟩
def b_contained : Py.Ss := (.cons (.retE (.blt .sum (.cons (.cmp0 (.tp [3, 4]) (.seq (.var 0)) (.blt .max2 (.cons (.cst (.int 0)) (.cons (.bin .add (.bin .sub (.blt .min2 (.cons (.var 4) (.cons (.var 2) .nil))) (.blt .max2 (.cons (.var 3) (.cons (.var 1) .nil)))) (.cst (.int 1))) .nil)))) .nil)))
    .nil)
def f_contained : Py.Fd := ⟨3, 5, b_contained⟩
def l1b_surest : Py.Ss := (.cons (.asg 10 (.call 38 (.cons (.var 6) (.cons (.var 5) (.cons (.bin .sub (.bin .add (.var 5) (.var 2)) (.cst (.int 1))) .nil)))))
    (.cons (.ifs (.or (.isC false (.var 7) .non) (.cmp .gt (.var 10) (.sub (.var 7) (.cst (.int 0))))) (.cons (.asg 7 (.tup (.cons (.var 10) (.cons (.var 5) .nil))))
    .nil) .nil)
    .nil))
def l1_surest : Py.S := .fo (.nm 5) (.seq (.b1 .ssetI (.peek 3))) l1b_surest
def l0b_surest : Py.Ss := (.cons (.ext 3 (.lst (.cons (.var 8) (.cons (.bin .add (.bin .sub (.var 9) (.var 2)) (.cst (.int 1))) .nil))))
    .nil)
def l0_surest : Py.S := .fo (.tp [8, 9]) (.seq (.var 6)) l0b_surest
def b_surest : Py.Ss := (.cons (.exp (.call 6 (.cons (.var 0) .nil)))
    (.cons (.exp (.call 21 (.cons (.var 1) .nil)))
    (.cons (.ifs (.or (.not (.call 0 (.cons (.var 2) .nil))) (.not (.cmp2 .le .le (.cst (.int 1)) (.var 2) (.bin .add (.glb 0) (.cst (.int 1)))))) (.cons (.rse 5)
    .nil) .nil)
    (.cons (.exp (.call 32 (.cons (.var 0) (.cons (.var 1) .nil))))
    (.cons (.par [(false, 6), (false, 7)] (.cons (.call 23 (.cons (.var 0) (.cons (.var 1) .nil))) (.cons (.cst .non) .nil)))
    (.cons (.own 3 (.lst (.cons (.cst (.int 0)) .nil)))
    (.cons l0_surest
    (.cons (.asg 4 (.bin .sub (.bin .add (.glb 0) (.cst (.int 1))) (.var 2)))
    (.cons (.own 3 (.cmp0 (.nm 5) (.seq (.peek 3)) (.blt .min2 (.cons (.blt .max2 (.cons (.var 5) (.cons (.cst (.int 0)) .nil))) (.cons (.var 4) .nil)))))
    (.cons l1_surest
    (.cons (.retE (.tup (.cons (.sub (.var 7) (.cst (.int 1))) (.cons (.bin .sub (.bin .add (.sub (.var 7) (.cst (.int 1))) (.var 2)) (.cst (.int 1))) .nil))))
    .nil)))))))))))
def f_surest : Py.Fd := ⟨3, 11, b_surest⟩
def b_are_disjoint : Py.Ss := (.cons (.asg 2 (.blt .sorted (.cons (.cmpi (.tp [3, 4, 5]) (.seq (.var 0)) (.cmp .inn (.var 3) (.var 1)) (.tup (.cons (.var 4) (.cons (.var 5) .nil)))) .nil)))
    (.cons (.retE (.blt .all (.cons (.cmp0 (.tp [6, 7]) (.zip (.var 2) (.slL (.var 2) (.cst (.int 1)))) (.cmp .lt (.sub (.var 6) (.cst (.int 1))) (.sub (.var 7) (.cst (.int 0))))) .nil)))
    .nil))
def f_are_disjoint : Py.Fd := ⟨2, 8, b_are_disjoint⟩
def l0b_judged : Py.Ss := (.cons (.ifs (.or (.cmp .eq (.var 3) (.tup .nil)) (.or (.not (.blt .all (.cons (.cmp0 (.nm 4) (.seq (.var 3)) (.isi (.var 4) .str)) .nil))) (.not (.call 40 (.cons (.var 0) (.cons (.var 3) .nil)))))) (.cons (.retE (.cst (.bl false)))
    .nil) .nil)
    (.cons (.ext 2 (.var 3))
    .nil))
def l0_judged : Py.S := .fo (.nm 3) (.seq (.var 1)) l0b_judged
def b_judged : Py.Ss := (.cons (.ifs (.or (.not (.isi (.var 1) .list)) (.not (.blt .all (.cons (.cmp0 (.nm 3) (.seq (.var 1)) (.isi (.var 3) .tuple)) .nil)))) (.cons (.retE (.cst (.bl false)))
    .nil) .nil)
    (.cons (.own 2 (.lst .nil))
    (.cons l0_judged
    (.cons (.retE (.cmp .eq (.blt .sorted (.cons (.peek 2) .nil)) (.call 4 (.cons (.var 0) .nil))))
    .nil))))
def f_judged : Py.Fd := ⟨2, 5, b_judged⟩
def b_are_classes : Py.Ss := (.cons (.exp (.call 6 (.cons (.var 0) .nil)))
    (.cons (.retE (.call 41 (.cons (.var 0) (.cons (.var 1) .nil))))
    .nil))
def f_are_classes : Py.Fd := ⟨2, 2, b_are_classes⟩
def b_most_right : Py.Ss := (.cons (.exp (.call 6 (.cons (.var 0) .nil)))
    (.cons (.asg 1 (.call 27 (.cons (.var 0) .nil)))
    (.cons (.asg 2 (.cmp0 (.tp [3, 4]) (.seq (.call 10 (.cons (.var 0) .nil))) (.blt .tuple (.cons (.call 7 (.cons (.var 0) (.cons (.var 3) .nil))) .nil))))
    (.cons (.retE (.blt .min1 (.cons (.cmpi (.nm 5) (.seq (.var 2)) (.cmp .eq (.blt .len (.cons (.var 5) .nil)) (.var 1)) (.var 5)) .nil)))
    .nil))))
def f_most_right : Py.Fd := ⟨1, 6, b_most_right⟩
def b_shows : Py.Ss := (.cons (.exp (.call 6 (.cons (.var 0) .nil)))
    (.cons (.exp (.call 21 (.cons (.var 1) .nil)))
    (.cons (.retE (.and (.call 41 (.cons (.var 0) (.cons (.var 2) .nil))) (.cmp .le (.blt .len (.cons (.var 2) .nil)) (.bin .sub (.blt .len (.cons (.var 0) .nil)) (.var 1)))))
    .nil)))
def f_shows : Py.Fd := ⟨3, 3, b_shows⟩
def b_check_right : Py.Ss := (.cons (.exp (.call 6 (.cons (.var 0) .nil)))
    (.cons (.exp (.call 21 (.cons (.var 1) .nil)))
    (.cons (.ifs (.cmp .eq (.call 22 (.cons (.var 0) (.cons (.blt .len (.cons (.var 0) .nil)) .nil))) (.lst .nil)) (.cons (.rse 7)
    .nil) .nil)
    .nil)))
def f_check_right : Py.Fd := ⟨2, 2, b_check_right⟩
def b_reachable_times : Py.Ss := (.cons (.retE (.call 22 (.cons (.var 0) (.cons (.bin .sub (.blt .len (.cons (.var 0) .nil)) (.var 1)) .nil))))
    .nil)
def f_reachable_times : Py.Fd := ⟨2, 2, b_reachable_times⟩
def b_reachable : Py.Ss := (.cons (.exp (.call 45 (.cons (.var 0) (.cons (.var 1) .nil))))
    (.cons (.retE (.call 46 (.cons (.var 0) (.cons (.var 1) .nil))))
    .nil))
def f_reachable : Py.Fd := ⟨2, 2, b_reachable⟩
def b_worst_agreed : Py.Ss := (.cons (.exp (.call 45 (.cons (.var 0) (.cons (.var 1) .nil))))
    (.cons (.retE (.call 25 (.cons (.call 46 (.cons (.var 0) (.cons (.var 1) .nil))) .nil)))
    .nil))
def f_worst_agreed : Py.Fd := ⟨2, 2, b_worst_agreed⟩
def b_always_agreed : Py.Ss := (.cons (.exp (.call 45 (.cons (.var 0) (.cons (.var 1) .nil))))
    (.cons (.retE (.call 25 (.cons (.call 22 (.cons (.var 0) (.cons (.blt .len (.cons (.var 0) .nil)) .nil))) .nil)))
    .nil))
def f_always_agreed : Py.Fd := ⟨2, 2, b_always_agreed⟩
def b_check_sum : Py.Ss := (.cons (.exp (.call 45 (.cons (.var 0) (.cons (.var 1) .nil))))
    (.cons (.ifs (.cmp .gt (.bin .add (.blt .len (.cons (.var 0) .nil)) (.var 1)) (.glb 1)) (.cons (.rse 4)
    .nil) .nil)
    .nil))
def f_check_sum : Py.Fd := ⟨2, 2, b_check_sum⟩
def b_worst_lies : Py.Ss := (.cons (.exp (.call 50 (.cons (.var 0) (.cons (.var 1) .nil))))
    (.cons (.unp [3, 4] (.call 25 (.cons (.call 46 (.cons (.var 0) (.cons (.var 1) .nil))) .nil)))
    (.cons (.asg 2 (.slH (.cmpi (.nm 5) (.seq (.glb 3)) (.cmp .nin (.var 5) (.call 4 (.cons (.var 0) .nil))) (.var 5)) (.var 1)))
    (.cons (.retE (.blt .tuple (.cons (.cmp0 (.nm 5) (.seq (.var 2)) (.tup (.cons (.var 5) (.cons (.var 3) (.cons (.var 4) .nil))))) .nil)))
    .nil))))
def f_worst_lies : Py.Fd := ⟨2, 6, b_worst_lies⟩
def b_are_worst_lies : Py.Ss := (.cons (.exp (.call 50 (.cons (.var 0) (.cons (.var 1) .nil))))
    (.cons (.ifs (.or (.not (.call 5 (.cons (.var 2) .nil))) (.cmp .ne (.blt .len (.cons (.var 2) .nil)) (.var 1))) (.cons (.retE (.cst (.bl false)))
    .nil) .nil)
    (.cons (.asg 3 (.call 4 (.cons (.var 0) .nil)))
    (.cons (.ifs (.blt .any (.cons (.cmp0 (.nm 4) (.seq (.call 4 (.cons (.var 2) .nil))) (.cmp .inn (.var 4) (.var 3))) .nil)) (.cons (.retE (.cst (.bl false)))
    .nil) .nil)
    (.cons (.retE (.cmp .eq (.call 25 (.cons (.call 23 (.cons (.bin .add (.var 0) (.var 2)) (.cons (.var 1) .nil))) .nil)) (.call 25 (.cons (.call 46 (.cons (.var 0) (.cons (.var 1) .nil))) .nil))))
    .nil)))))
def f_are_worst_lies : Py.Fd := ⟨3, 5, b_are_worst_lies⟩
def l0b__law_near : Py.Ss := (.cons (.asg 6 (.bin .sub (.var 3) (.call 15 (.cons (.var 0) (.cons (.bin .add (.bin .add (.var 1) (.cst (.int 2))) (.bin .mul (.cst (.int 2)) (.var 5))) (.cons (.cst (.int 6)) .nil))))))
    (.cons (.app 4 (.tup (.cons (.sub (.cst (.str [97, 98, 99, 100, 101, 102, 103, 104, 105, 106])) (.var 5)) (.cons (.var 6) (.cons (.bin .add (.var 3) (.call 15 (.cons (.var 0) (.cons (.bin .add (.bin .add (.var 1) (.cst (.int 3))) (.bin .mul (.cst (.int 2)) (.var 5))) (.cons (.cst (.int 8)) .nil))))) .nil)))))
    .nil))
def l0__law_near : Py.S := .fo (.nm 5) (.rng1 (.call 15 (.cons (.var 0) (.cons (.bin .add (.var 1) (.cst (.int 1))) (.cons (.bin .add (.var 2) (.cst (.int 1))) .nil))))) l0b__law_near
def b__law_near : Py.Ss := (.cons (.asg 3 (.bin .add (.cst (.int 5)) (.call 15 (.cons (.var 0) (.cons (.var 1) (.cons (.cst (.int 12)) .nil))))))
    (.cons (.own 4 (.lst .nil))
    (.cons l0__law_near
    (.cons (.retE (.blt .tuple (.cons (.peek 4) .nil)))
    .nil))))
def f__law_near : Py.Fd := ⟨3, 7, b__law_near⟩
def b__law_with : Py.Ss := (.cons (.asg 2 (.call 18 .nil))
    (.cons (.retE (.call 30 (.cons (.var 2) (.cons (.cmp0 (.nm 3) (.seq (.var 2)) (.cmp .ge (.blt .len (.cons (.call 19 (.cons (.var 0) (.cons (.var 3) .nil))) .nil)) (.var 1))) .nil))))
    .nil))
def f__law_with : Py.Fd := ⟨2, 4, b__law_with⟩
def b__law_inside : Py.Ss := (.cons (.retE (.blt .any (.cons (.cmp0 (.tp [2, 3]) (.seq (.var 0)) (.and (.cmp .le (.var 2) (.var 1)) (.cmp .le (.var 1) (.var 3)))) .nil)))
    .nil)
def f__law_inside : Py.Fd := ⟨2, 4, b__law_inside⟩
def b_bounding_source : Py.Ss := (.cons (.exp (.call 45 (.cons (.var 0) (.cons (.var 1) .nil))))
    (.cons (.unp [3, 4] (.call 25 (.cons (.call 46 (.cons (.var 0) (.cons (.var 1) .nil))) .nil)))
    (.cons (.asg 2 (.cmpi (.tp [5, 6, 7]) (.seq (.var 0)) (.and (.cmp .le (.var 6) (.var 3)) (.cmp .le (.var 4) (.var 7))) (.var 5)))
    (.cons (.retE (.ite (.cmp .ne (.var 2) (.lst .nil)) (.sub (.var 2) (.cst (.int 0))) (.cst .non)))
    .nil))))
def f_bounding_source : Py.Fd := ⟨2, 8, b_bounding_source⟩
def b_is_range : Py.Ss := (.cons (.ifs (.or (.not (.isi (.var 0) .tuple)) (.or (.cmp .ne (.blt .len (.cons (.var 0) .nil)) (.cst (.int 2))) (.or (.not (.call 1 (.cons (.sub (.var 0) (.cst (.int 0))) .nil))) (.not (.call 1 (.cons (.sub (.var 0) (.cst (.int 1))) .nil)))))) (.cons (.retE (.cst (.bl false)))
    .nil) .nil)
    (.cons (.retE (.cmp .le (.sub (.var 0) (.cst (.int 0))) (.sub (.var 0) (.cst (.int 1)))))
    .nil))
def f_is_range : Py.Fd := ⟨1, 1, b_is_range⟩
def b_are_ranges : Py.Ss := (.cons (.ifs (.or (.not (.isi (.var 0) .list)) (.not (.blt .all (.cons (.cmp0 (.nm 3) (.seq (.var 0)) (.call 57 (.cons (.var 3) .nil))) .nil)))) (.cons (.retE (.cst (.bl false)))
    .nil) .nil)
    (.cons (.retE (.blt .all (.cons (.cmp0 (.tp [1, 2]) (.zip (.var 0) (.slL (.var 0) (.cst (.int 1)))) (.cmp .lt (.bin .add (.sub (.var 1) (.cst (.int 1))) (.cst (.int 1))) (.sub (.var 2) (.cst (.int 0))))) .nil)))
    .nil))
def f_are_ranges : Py.Fd := ⟨1, 4, b_are_ranges⟩
def l0b_common : Py.Ss := (.cons (.ext 2 (.cmp0 (.tp [5, 6]) (.seq (.var 1)) (.tup (.cons (.blt .max2 (.cons (.var 3) (.cons (.var 5) .nil))) (.cons (.blt .min2 (.cons (.var 4) (.cons (.var 6) .nil))) .nil)))))
    .nil)
def l0_common : Py.S := .fo (.tp [3, 4]) (.seq (.var 0)) l0b_common
def b_common : Py.Ss := (.cons (.own 2 (.lst .nil))
    (.cons l0_common
    (.cons (.retE (.call 20 (.cons (.cmpi (.tp [3, 4]) (.seq (.peek 2)) (.cmp .le (.var 3) (.var 4)) (.tup (.cons (.var 3) (.cons (.var 4) .nil)))) .nil)))
    .nil)))
def f_common : Py.Fd := ⟨2, 7, b_common⟩
def b_grown : Py.Ss := (.cons (.asg 3 (.cmp0 (.tp [4, 5]) (.seq (.var 0)) (.tup (.cons (.bin .add (.var 4) (.var 1)) (.cons (.blt .min2 (.cons (.bin .add (.var 5) (.var 2)) (.cons (.glb 0) .nil))) .nil)))))
    (.cons (.retE (.call 20 (.cons (.cmpi (.tp [4, 5]) (.seq (.var 3)) (.cmp .le (.var 4) (.var 5)) (.tup (.cons (.var 4) (.cons (.var 5) .nil)))) .nil)))
    .nil))
def f_grown : Py.Fd := ⟨3, 6, b_grown⟩
def b_is_moment : Py.Ss := (.cons (.retE (.and (.call 0 (.cons (.var 0) .nil)) (.cmp2 .le .le (.cst (.int 0)) (.var 0) (.glb 6))))
    .nil)
def f_is_moment : Py.Fd := ⟨1, 1, b_is_moment⟩
def b_is_round : Py.Ss := (.cons (.ifs (.or (.not (.isi (.var 0) .tuple)) (.or (.cmp .ne (.blt .len (.cons (.var 0) .nil)) (.cst (.int 2))) (.not (.call 61 (.cons (.sub (.var 0) (.cst (.int 0))) .nil))))) (.cons (.retE (.cst (.bl false)))
    .nil) .nil)
    (.cons (.retE (.and (.call 5 (.cons (.sub (.var 0) (.cst (.int 1))) .nil)) (.cmp .le (.blt .len (.cons (.sub (.var 0) (.cst (.int 1))) .nil)) (.glb 7))))
    .nil))
def f_is_round : Py.Fd := ⟨1, 1, b_is_round⟩
def b_is_log : Py.Ss := (.cons (.ifs (.or (.not (.isi (.var 0) .tuple)) (.not (.cmp2 .le .le (.cst (.int 1)) (.blt .len (.cons (.var 0) .nil)) (.glb 5)))) (.cons (.retE (.cst (.bl false)))
    .nil) .nil)
    (.cons (.ifs (.not (.blt .all (.cons (.cmp0 (.nm 1) (.seq (.var 0)) (.call 62 (.cons (.var 1) .nil))) .nil))) (.cons (.retE (.cst (.bl false)))
    .nil) .nil)
    (.cons (.ifs (.not (.blt .all (.cons (.cmp0 (.tp [2, 3]) (.zip (.var 0) (.slL (.var 0) (.cst (.int 1)))) (.cmp .lt (.sub (.var 2) (.cst (.int 0))) (.sub (.var 3) (.cst (.int 0))))) .nil))) (.cons (.retE (.cst (.bl false)))
    .nil) .nil)
    (.cons (.retE (.blt .all (.cons (.cmp0 (.nm 1) (.seq (.var 0)) (.cmp .eq (.call 4 (.cons (.sub (.var 1) (.cst (.int 1))) .nil)) (.call 4 (.cons (.sub (.sub (.var 0) (.cst (.int 0))) (.cst (.int 1))) .nil)))) .nil)))
    .nil))))
def f_is_log : Py.Fd := ⟨1, 4, b_is_log⟩
def b_check_pace : Py.Ss := (.cons (.ifs (.or (.not (.isi (.var 0) .tuple)) (.or (.cmp .ne (.blt .len (.cons (.var 0) .nil)) (.cst (.int 2))) (.not (.blt .all (.cons (.cmp0 (.nm 1) (.seq (.var 0)) (.call 0 (.cons (.var 1) .nil))) .nil))))) (.cons (.rse 10)
    .nil) .nil)
    (.cons (.ifs (.not (.cmp3 .le .le .le (.cst (.int 0)) (.sub (.var 0) (.cst (.int 0))) (.sub (.var 0) (.cst (.int 1))) (.glb 8))) (.cons (.rse 10)
    .nil) .nil)
    .nil))
def f_check_pace : Py.Fd := ⟨1, 2, b_check_pace⟩
def b_carried : Py.Ss := (.cons (.ifs (.not (.call 58 (.cons (.var 0) .nil))) (.cons (.rse 8)
    .nil) .nil)
    (.cons (.ifs (.not (.call 61 (.cons (.var 1) .nil))) (.cons (.rse 9)
    .nil) .nil)
    (.cons (.exp (.call 64 (.cons (.var 2) .nil)))
    (.cons (.retE (.call 60 (.cons (.var 0) (.cons (.bin .mul (.sub (.var 2) (.cst (.int 0))) (.var 1)) (.cons (.bin .mul (.sub (.var 2) (.cst (.int 1))) (.var 1)) .nil)))))
    .nil))))
def f_carried : Py.Fd := ⟨3, 3, b_carried⟩
def b_check_log : Py.Ss := (.cons (.ifs (.not (.call 63 (.cons (.var 0) .nil))) (.cons (.rse 11)
    .nil) .nil)
    (.cons (.exp (.call 64 (.cons (.var 1) .nil)))
    (.cons (.exp (.call 21 (.cons (.var 2) .nil)))
    .nil)))
def f_check_log : Py.Fd := ⟨3, 3, b_check_log⟩
def l0b_led_through : Py.Ss := (.cons (.asg 7 (.call 60 (.cons (.var 4) (.cons (.bin .mul (.sub (.var 1) (.cst (.int 0))) (.bin .sub (.var 5) (.var 3))) (.cons (.bin .mul (.sub (.var 1) (.cst (.int 1))) (.bin .sub (.var 5) (.var 3))) .nil)))))
    (.cons (.asg 4 (.call 59 (.cons (.var 7) (.cons (.call 23 (.cons (.var 6) (.cons (.var 2) .nil))) .nil))))
    (.cons (.asg 3 (.var 5))
    .nil)))
def l0_led_through : Py.S := .fo (.tp [5, 6]) (.seq (.slL (.var 0) (.cst (.int 1)))) l0b_led_through
def b_led_through : Py.Ss := (.cons (.par [(false, 3), (false, 4)] (.cons (.sub (.sub (.var 0) (.cst (.int 0))) (.cst (.int 0))) (.cons (.call 23 (.cons (.sub (.sub (.var 0) (.cst (.int 0))) (.cst (.int 1))) (.cons (.var 2) .nil))) .nil)))
    (.cons l0_led_through
    (.cons (.retE (.var 4))
    .nil)))
def f_led_through : Py.Fd := ⟨3, 8, b_led_through⟩
def b_followed : Py.Ss := (.cons (.exp (.call 66 (.cons (.var 0) (.cons (.var 1) (.cons (.var 2) .nil)))))
    (.cons (.retE (.call 67 (.cons (.var 0) (.cons (.var 1) (.cons (.var 2) .nil)))))
    .nil))
def f_followed : Py.Fd := ⟨3, 3, b_followed⟩
def l1b_small_sets : Py.Ss := (.cons (.ifs (.cmp .eq (.blt .len (.cons (.var 5) .nil)) (.var 3)) (.cons (.ext 4 (.cmpi (.nm 6) (.seq (.var 0)) (.or (.cmp .eq (.var 5) (.tup .nil)) (.cmp .gt (.var 6) (.sub (.var 5) (.neg (.cst (.int 1)))))) (.bin .add (.var 5) (.tup (.cons (.var 6) .nil)))))
    .nil) .nil)
    .nil)
def l1_small_sets : Py.S := .fo (.nm 5) (.seq (.var 2)) l1b_small_sets
def l0b_small_sets : Py.Ss := (.cons (.own 4 (.lst .nil))
    (.cons l1_small_sets
    (.cons (.asg 2 (.bin .add (.var 2) (.peek 4)))
    .nil)))
def l0_small_sets : Py.S := .fo (.nm 3) (.rng1 (.var 1)) l0b_small_sets
def b_small_sets : Py.Ss := (.cons (.asg 2 (.lst (.cons (.tup .nil) .nil)))
    (.cons l0_small_sets
    (.cons (.retE (.var 2))
    .nil)))
def f_small_sets : Py.Fd := ⟨2, 7, b_small_sets⟩
def b_led_without : Py.Ss := (.cons (.asg 3 (.cmp0 (.tp [4, 5]) (.seq (.var 0)) (.tup (.cons (.var 4) (.cons (.blt .tuple (.cons (.cmpi (.nm 6) (.seq (.var 5)) (.cmp .nin (.sub (.var 6) (.cst (.int 0))) (.var 2)) (.var 6)) .nil)) .nil)))))
    (.cons (.retE (.call 67 (.cons (.var 3) (.cons (.var 1) (.cons (.cst (.int 0)) .nil)))))
    .nil))
def f_led_without : Py.Fd := ⟨3, 7, b_led_without⟩
def l0b_followed_fixed : Py.Ss := (.cons (.ext 3 (.call 70 (.cons (.var 0) (.cons (.var 1) (.cons (.var 4) .nil)))))
    .nil)
def l0_followed_fixed : Py.S := .fo (.nm 4) (.seq (.call 69 (.cons (.call 4 (.cons (.sub (.sub (.var 0) (.cst (.int 0))) (.cst (.int 1))) .nil)) (.cons (.var 2) .nil)))) l0b_followed_fixed
def b_followed_fixed : Py.Ss := (.cons (.exp (.call 66 (.cons (.var 0) (.cons (.var 1) (.cons (.var 2) .nil)))))
    (.cons (.own 3 (.lst .nil))
    (.cons l0_followed_fixed
    (.cons (.frz 3)
    (.cons (.retE (.call 20 (.cons (.var 3) .nil)))
    .nil)))))
def f_followed_fixed : Py.Fd := ⟨3, 5, b_followed_fixed⟩
def l0b_suspects : Py.Ss := (.cons (.asg 5 (.cmpi (.nm 6) (.seq (.peek 3)) (.blt .all (.cons (.cmp0 (.nm 7) (.seq (.var 6)) (.cmp .inn (.var 7) (.var 4))) .nil)) (.var 6)))
    (.cons (.ifs (.and (.cmp .eq (.var 5) (.lst .nil)) (.cmp .ne (.call 70 (.cons (.var 0) (.cons (.var 1) (.cons (.var 4) .nil)))) (.lst .nil))) (.cons (.app 3 (.var 4))
    .nil) .nil)
    .nil))
def l0_suspects : Py.S := .fo (.nm 4) (.seq (.call 69 (.cons (.call 4 (.cons (.sub (.sub (.var 0) (.cst (.int 0))) (.cst (.int 1))) .nil)) (.cons (.var 2) .nil)))) l0b_suspects
def b_suspects : Py.Ss := (.cons (.exp (.call 66 (.cons (.var 0) (.cons (.var 1) (.cons (.var 2) .nil)))))
    (.cons (.own 3 (.lst .nil))
    (.cons l0_suspects
    (.cons (.retE (.blt .sorted (.cons (.peek 3) .nil)))
    .nil))))
def f_suspects : Py.Fd := ⟨3, 8, b_suspects⟩
def l1b__law_log : Py.Ss := (.cons (.asg 11 (.bin .add (.bin .add (.bin .add (.var 1) (.cst (.int 10))) (.bin .mul (.cst (.int 20)) (.var 2))) (.bin .mul (.cst (.int 4)) (.var 9))))
    (.cons (.asg 12 (.blt .max2 (.cons (.bin .add (.bin .sub (.var 6) (.call 15 (.cons (.var 0) (.cons (.var 11) (.cons (.cst (.int 7)) .nil))))) (.call 15 (.cons (.var 0) (.cons (.bin .add (.var 11) (.cst (.int 1))) (.cons (.cst (.int 3)) .nil))))) (.cons (.cst (.int 0)) .nil))))
    (.cons (.app 8 (.tup (.cons (.sub (.cst (.str [97, 98, 99, 100, 101])) (.var 9)) (.cons (.var 12) (.cons (.bin .add (.var 12) (.call 15 (.cons (.var 0) (.cons (.bin .add (.var 11) (.cst (.int 2))) (.cons (.cst (.int 9)) .nil))))) .nil)))))
    .nil)))
def l1__law_log : Py.S := .fo (.nm 9) (.rng1 (.var 3)) l1b__law_log
def l0b__law_log : Py.Ss := (.cons (.own 8 (.lst .nil))
    (.cons l1__law_log
    (.cons (.app 7 (.tup (.cons (.var 5) (.cons (.blt .tuple (.cons (.peek 8) .nil)) .nil))))
    (.cons (.asg 10 (.bin .add (.cst (.int 1)) (.call 15 (.cons (.var 0) (.cons (.bin .add (.bin .add (.var 1) (.cst (.int 5))) (.var 2)) (.cons (.cst (.int 3)) .nil))))))
    (.cons (.par [(false, 5), (false, 6)] (.cons (.bin .add (.var 5) (.var 10)) (.cons (.bin .add (.var 6) (.var 10)) .nil)))
    .nil)))))
def l0__law_log : Py.S := .fo (.nm 2) (.rng1 (.var 4)) l0b__law_log
def b__law_log : Py.Ss := (.cons (.par [(false, 3), (false, 4)] (.cons (.call 15 (.cons (.var 0) (.cons (.var 1) (.cons (.cst (.int 5)) .nil)))) (.cons (.bin .add (.cst (.int 1)) (.call 15 (.cons (.var 0) (.cons (.bin .add (.var 1) (.cst (.int 1))) (.cons (.cst (.int 4)) .nil))))) .nil)))
    (.cons (.par [(false, 5), (false, 6), (true, 7)] (.cons (.call 15 (.cons (.var 0) (.cons (.bin .add (.var 1) (.cst (.int 2))) (.cons (.cst (.int 3)) .nil)))) (.cons (.bin .add (.cst (.int 6)) (.call 15 (.cons (.var 0) (.cons (.bin .add (.var 1) (.cst (.int 3))) (.cons (.cst (.int 5)) .nil))))) (.cons (.lst .nil) .nil))))
    (.cons l0__law_log
    (.cons (.retE (.blt .tuple (.cons (.peek 7) .nil)))
    .nil))))
def f__law_log : Py.Fd := ⟨2, 13, b__law_log⟩
def b__law_pace : Py.Ss := (.cons (.asg 2 (.call 15 (.cons (.var 0) (.cons (.var 1) (.cons (.cst (.int 3)) .nil)))))
    (.cons (.retE (.tup (.cons (.var 2) (.cons (.bin .add (.var 2) (.call 15 (.cons (.var 0) (.cons (.bin .add (.var 1) (.cst (.int 1))) (.cons (.cst (.int 3)) .nil))))) .nil))))
    .nil))
def f__law_pace : Py.Fd := ⟨2, 3, b__law_pace⟩
def b__law_neat : Py.Ss := (.cons (.ifs (.not (.blt .all (.cons (.cmp0 (.tp [3, 4]) (.seq (.var 0)) (.and (.cmp .le (.cst (.int 0)) (.var 3)) (.and (.cmp .le (.var 3) (.var 4)) (.cmp .le (.var 4) (.cst (.int 9999)))))) .nil))) (.cons (.retE (.cst (.bl false)))
    .nil) .nil)
    (.cons (.retE (.blt .all (.cons (.cmp0 (.tp [1, 2]) (.zip (.var 0) (.slL (.var 0) (.cst (.int 1)))) (.cmp .lt (.bin .add (.sub (.var 1) (.cst (.int 1))) (.cst (.int 1))) (.sub (.var 2) (.cst (.int 0))))) .nil)))
    .nil))
def f__law_neat : Py.Fd := ⟨1, 5, b__law_neat⟩
def l0b__law_dp : Py.Ss := (.cons (.asg 8 (.cmpi (.nm 12) (.seq (.var 7)) (.cmp .nin (.sub (.var 12) (.cst (.int 0))) (.var 2)) (.var 12)))
    (.cons (.asg 9 (.cmpi (.nm 13) (.rng1 (.cst (.int 101))) (.sub (.var 5) (.var 13)) (.var 13)))
    (.cons (.ifs (.cmp .ne (.var 6) (.sub (.sub (.var 0) (.cst (.int 0))) (.cst (.int 0)))) (.cons (.asg 10 (.bin .sub (.var 6) (.var 4)))
    (.cons (.asg 11 (.cmp0 (.nm 13) (.seq (.var 9)) (.tup (.cons (.bin .add (.var 13) (.bin .mul (.sub (.var 1) (.cst (.int 0))) (.var 10))) (.cons (.bin .add (.var 13) (.bin .mul (.sub (.var 1) (.cst (.int 1))) (.var 10))) .nil)))))
    (.cons (.asg 9 (.cmpi (.nm 13) (.rng1 (.cst (.int 101))) (.blt .any (.cons (.cmp0 (.tp [14, 15]) (.seq (.var 11)) (.and (.cmp .le (.var 14) (.var 13)) (.cmp .le (.var 13) (.var 15)))) .nil)) (.var 13)))
    .nil))) .nil)
    (.cons (.asg 4 (.var 6))
    (.cons (.asg 5 (.cmp0 (.nm 13) (.rng1 (.cst (.int 101))) (.and (.cmp .inn (.var 13) (.var 9)) (.cmp .ge (.blt .len (.cons (.call 19 (.cons (.var 8) (.cons (.var 13) .nil))) .nil)) (.bin .sub (.blt .len (.cons (.var 8) .nil)) (.var 3))))))
    .nil)))))
def l0__law_dp : Py.S := .fo (.tp [6, 7]) (.seq (.var 0)) l0b__law_dp
def b__law_dp : Py.Ss := (.cons (.par [(false, 4), (false, 5)] (.cons (.sub (.sub (.var 0) (.cst (.int 0))) (.cst (.int 0))) (.cons (.bin .mul (.lst (.cons (.cst (.bl true)) .nil)) (.cst (.int 101))) .nil)))
    (.cons l0__law_dp
    (.cons (.retE (.var 5))
    .nil)))
def f__law_dp : Py.Fd := ⟨4, 16, b__law_dp⟩
def b_is_exchange : Py.Ss := (.cons (.ifs (.or (.not (.isi (.var 0) .tuple)) (.or (.cmp .ne (.blt .len (.cons (.var 0) .nil)) (.cst (.int 4))) (.not (.blt .all (.cons (.cmp0 (.nm 5) (.seq (.var 0)) (.call 1 (.cons (.var 5) .nil))) .nil))))) (.cons (.retE (.cst (.bl false)))
    .nil) .nil)
    (.cons (.unp [1, 2, 3, 4] (.var 0))
    (.cons (.retE (.and (.cmp .le (.var 1) (.var 4)) (.and (.cmp .le (.var 2) (.var 3)) (.cmp .le (.bin .sub (.var 3) (.var 2)) (.bin .sub (.var 4) (.var 1))))))
    .nil)))
def f_is_exchange : Py.Fd := ⟨1, 6, b_is_exchange⟩
def b_check_exchange : Py.Ss := (.cons (.ifs (.not (.call 77 (.cons (.var 0) .nil))) (.cons (.rse 12)
    .nil) .nil)
    .nil)
def f_check_exchange : Py.Fd := ⟨1, 1, b_check_exchange⟩
def b_find_delay : Py.Ss := (.cons (.unp [1, 2, 3, 4] (.var 0))
    (.cons (.retE (.bin .sub (.bin .sub (.var 4) (.var 1)) (.bin .sub (.var 3) (.var 2))))
    .nil))
def f_find_delay : Py.Fd := ⟨1, 5, b_find_delay⟩
def b_find_offsets : Py.Ss := (.cons (.unp [1, 2, 3, 4] (.var 0))
    (.cons (.retE (.tup (.cons (.bin .sub (.var 3) (.var 4)) (.cons (.bin .sub (.var 2) (.var 1)) .nil))))
    .nil))
def f_find_offsets : Py.Fd := ⟨1, 5, b_find_offsets⟩
def b_delay : Py.Ss := (.cons (.exp (.call 78 (.cons (.var 0) .nil)))
    (.cons (.retE (.call 79 (.cons (.var 0) .nil)))
    .nil))
def f_delay : Py.Fd := ⟨1, 1, b_delay⟩
def b_offsets : Py.Ss := (.cons (.exp (.call 78 (.cons (.var 0) .nil)))
    (.cons (.retE (.call 80 (.cons (.var 0) .nil)))
    .nil))
def f_offsets : Py.Fd := ⟨1, 1, b_offsets⟩
def b_check_delays : Py.Ss := (.cons (.ifs (.or (.not (.call 1 (.cons (.var 0) .nil))) (.not (.call 1 (.cons (.var 1) .nil)))) (.cons (.rse 14)
    .nil) .nil)
    .nil)
def f_check_delays : Py.Fd := ⟨2, 2, b_check_delays⟩
def b_offsets_with : Py.Ss := (.cons (.exp (.call 78 (.cons (.var 0) .nil)))
    (.cons (.exp (.call 83 (.cons (.var 1) (.cons (.var 2) .nil))))
    (.cons (.ifs (.cmp .gt (.bin .add (.var 1) (.var 2)) (.call 79 (.cons (.var 0) .nil))) (.cons (.rse 14)
    .nil) .nil)
    (.cons (.unp [3, 4] (.call 80 (.cons (.var 0) .nil)))
    (.cons (.retE (.tup (.cons (.bin .add (.var 3) (.var 2)) (.cons (.bin .sub (.var 4) (.var 1)) .nil))))
    .nil)))))
def f_offsets_with : Py.Fd := ⟨3, 5, b_offsets_with⟩
def b_common_offsets : Py.Ss := (.cons (.ifs (.or (.not (.isi (.var 0) .list)) (.not (.cmp2 .le .le (.cst (.int 1)) (.blt .len (.cons (.var 0) .nil)) (.glb 9)))) (.cons (.rse 13)
    .nil) .nil)
    (.cons (.ifs (.not (.blt .all (.cons (.cmp0 (.nm 4) (.seq (.var 0)) (.call 77 (.cons (.var 4) .nil))) .nil))) (.cons (.rse 13)
    .nil) .nil)
    (.cons (.asg 1 (.cmp0 (.nm 4) (.seq (.var 0)) (.call 80 (.cons (.var 4) .nil))))
    (.cons (.par [(false, 2), (false, 3)] (.cons (.blt .max1I (.cons (.cmp0 (.tp [5, 6]) (.seq (.var 1)) (.var 5)) .nil)) (.cons (.blt .min1I (.cons (.cmp0 (.tp [5, 6]) (.seq (.var 1)) (.var 6)) .nil)) .nil)))
    (.cons (.retE (.ite (.cmp .le (.var 2) (.var 3)) (.tup (.cons (.var 2) (.cons (.var 3) .nil))) (.cst .non)))
    .nil)))))
def f_common_offsets : Py.Fd := ⟨1, 7, b_common_offsets⟩
def b_delayed : Py.Ss := (.cons (.exp (.call 78 (.cons (.var 0) .nil)))
    (.cons (.exp (.call 83 (.cons (.var 1) (.cons (.var 2) .nil))))
    (.cons (.unp [3, 4, 5, 6] (.var 0))
    (.cons (.ifs (.or (.cmp .gt (.bin .add (.var 5) (.var 1)) (.glb 0)) (.cmp .gt (.bin .add (.bin .add (.var 6) (.var 1)) (.var 2)) (.glb 0))) (.cons (.rse 4)
    .nil) .nil)
    (.cons (.retE (.tup (.cons (.var 3) (.cons (.bin .add (.var 4) (.var 1)) (.cons (.bin .add (.var 5) (.var 1)) (.cons (.bin .add (.bin .add (.var 6) (.var 1)) (.var 2)) .nil))))))
    .nil)))))
def f_delayed : Py.Fd := ⟨3, 7, b_delayed⟩
def b_report_of : Py.Ss := (.cons (.ifs (.not (.call 2 (.cons (.var 0) .nil))) (.cons (.rse 15)
    .nil) .nil)
    (.cons (.exp (.call 78 (.cons (.var 1) .nil)))
    (.cons (.ifs (.or (.not (.call 1 (.cons (.var 2) .nil))) (.cmp .lt (.var 2) (.sub (.var 1) (.cst (.int 3))))) (.cons (.rse 2)
    .nil) .nil)
    (.cons (.unp [3, 4] (.call 80 (.cons (.var 1) .nil)))
    (.cons (.ifs (.or (.not (.call 1 (.cons (.bin .add (.var 2) (.var 3)) .nil))) (.not (.call 1 (.cons (.bin .add (.var 2) (.var 4)) .nil)))) (.cons (.rse 4)
    .nil) .nil)
    (.cons (.retE (.tup (.cons (.var 0) (.cons (.bin .add (.var 2) (.var 3)) (.cons (.bin .add (.var 2) (.var 4)) .nil)))))
    .nil))))))
def f_report_of : Py.Fd := ⟨3, 5, b_report_of⟩
def l0b__law_drawn : Py.Ss := (.cons (.asg 5 (.bin .fdiv (.var 5) (.cst (.int 1000000))))
    (.cons (.asg 4 (.bin .sub (.var 4) (.cst (.int 1))))
    .nil))
def l0__law_drawn : Py.S := .whl 100000 (.and (.cmp .gt (.var 5) (.cst (.int 0))) (.cmp .gt (.var 4) (.cst (.int 0)))) l0b__law_drawn
def b__law_drawn : Py.Ss := (.cons (.asg 3 (.bin .mul (.cst (.int 7)) (.var 1)))
    (.cons (.ifs (.cmp .ne (.var 0) (.lst .nil)) (.cons (.asg 3 (.sub (.var 0) (.bin .mod (.var 1) (.blt .len (.cons (.var 0) .nil)))))
    (.cons (.asg 4 (.bin .fdiv (.var 1) (.blt .len (.cons (.var 0) .nil))))
    (.cons (.ifs (.and (.cmp .ge (.var 3) (.bin .pow (.cst (.int 10)) (.cst (.int 18)))) (.cmp .lt (.var 4) (.cst (.int 60)))) (.cons (.asg 5 (.bin .fdiv (.var 3) (.bin .pow (.cst (.int 10)) (.cst (.int 18)))))
    (.cons l0__law_drawn
    (.cons (.ifs (.cmp .gt (.var 5) (.cst (.int 0))) (.cons (.retE (.bin .mod (.bin .mod (.var 5) (.cst (.int 1000000))) (.var 2)))
    .nil) .nil)
    .nil))) .nil)
    (.cons (.asg 3 (.bin .add (.var 3) (.bin .mul (.cst (.int 6553)) (.bin .fdiv (.var 1) (.blt .len (.cons (.var 0) .nil))))))
    .nil)))) .nil)
    (.cons (.asg 3 (.bin .mod (.bin .add (.bin .mul (.bin .mod (.var 3) (.cst (.int 2147483563))) (.cst (.int 69069))) (.bin .mul (.cst (.int 104723)) (.bin .add (.var 1) (.cst (.int 1))))) (.cst (.int 2147483563))))
    (.cons (.asg 3 (.bin .mod (.bin .add (.bin .mul (.var 3) (.var 3)) (.bin .fdiv (.var 3) (.cst (.int 3)))) (.cst (.int 2147483399))))
    (.cons (.retE (.bin .mod (.bin .fdiv (.bin .mod (.bin .add (.bin .mul (.var 3) (.var 3)) (.bin .fdiv (.var 3) (.cst (.int 7)))) (.cst (.int 2147483647))) (.cst (.int 11))) (.var 2)))
    .nil)))))
def f__law_drawn : Py.Fd := ⟨3, 6, b__law_drawn⟩
def b__law_exchange : Py.Ss := (.cons (.par [(false, 3), (false, 4), (false, 5)] (.cons (.call 88 (.cons (.var 0) (.cons (.var 1) (.cons (.cst (.int 200)) .nil)))) (.cons (.call 88 (.cons (.var 0) (.cons (.bin .add (.var 1) (.cst (.int 1))) (.cons (.cst (.int 30)) .nil)))) (.cons (.call 88 (.cons (.var 0) (.cons (.bin .add (.var 1) (.cst (.int 2))) (.cons (.cst (.int 30)) .nil)))) .nil))))
    (.cons (.par [(false, 6), (false, 7)] (.cons (.bin .add (.cst (.int 40)) (.call 88 (.cons (.var 0) (.cons (.bin .add (.var 1) (.cst (.int 3))) (.cons (.cst (.int 300)) .nil))))) (.cons (.call 88 (.cons (.var 0) (.cons (.bin .add (.var 1) (.cst (.int 4))) (.cons (.cst (.int 20)) .nil)))) .nil)))
    (.cons (.asg 2 (.bin .add (.bin .add (.var 3) (.var 4)) (.var 6)))
    (.cons (.retE (.tup (.cons (.var 3) (.cons (.var 2) (.cons (.bin .add (.var 2) (.var 7)) (.cons (.bin .add (.bin .add (.bin .add (.var 3) (.var 4)) (.var 7)) (.var 5)) .nil))))))
    .nil))))
def f__law_exchange : Py.Fd := ⟨2, 8, b__law_exchange⟩
def b_check_times : Py.Ss := (.cons (.ifs (.or (.not (.call 1 (.cons (.var 2) .nil))) (.not (.call 1 (.cons (.var 3) .nil)))) (.cons (.rse 2)
    .nil) .nil)
    (.cons (.exp (.call 32 (.cons (.var 0) (.cons (.var 1) .nil))))
    .nil))
def f_check_times : Py.Fd := ⟨4, 4, b_check_times⟩
def b_check_question : Py.Ss := (.cons (.exp (.call 6 (.cons (.var 0) .nil)))
    (.cons (.exp (.call 21 (.cons (.var 1) .nil)))
    (.cons (.exp (.call 90 (.cons (.var 0) (.cons (.var 1) (.cons (.var 2) (.cons (.var 3) .nil))))))
    .nil)))
def f_check_question : Py.Fd := ⟨4, 4, b_check_question⟩
def b_is_enough : Py.Ss := (.cons (.asg 5 (.blt .tuple (.cons (.cmpi (.nm 6) (.seq (.var 0)) (.cmp .inn (.sub (.var 6) (.cst (.int 0))) (.var 2)) (.var 6)) .nil)))
    (.cons (.retE (.blt .all (.cons (.cmp0 (.tp [7, 8]) (.seq (.call 23 (.cons (.var 5) (.cons (.var 1) .nil)))) (.and (.cmp .le (.var 3) (.var 7)) (.cmp .le (.var 8) (.var 4)))) .nil)))
    .nil))
def f_is_enough : Py.Fd := ⟨5, 9, b_is_enough⟩
def b_suffices : Py.Ss := (.cons (.exp (.call 6 (.cons (.var 0) .nil)))
    (.cons (.exp (.call 21 (.cons (.var 1) .nil)))
    (.cons (.ifs (.not (.call 12 (.cons (.var 0) (.cons (.var 2) .nil)))) (.cons (.rse 3)
    .nil) .nil)
    (.cons (.exp (.call 90 (.cons (.var 0) (.cons (.var 1) (.cons (.var 3) (.cons (.var 4) .nil))))))
    (.cons (.retE (.call 92 (.cons (.var 0) (.cons (.var 1) (.cons (.var 2) (.cons (.var 3) (.cons (.var 4) .nil)))))))
    .nil)))))
def f_suffices : Py.Fd := ⟨5, 5, b_suffices⟩
def l0b_sets_of : Py.Ss := (.cons (.asg 2 (.bin .add (.var 2) (.cmp0 (.nm 5) (.seq (.call 94 (.cons (.slL (.var 0) (.bin .add (.var 3) (.cst (.int 1)))) (.cons (.bin .sub (.var 1) (.cst (.int 1))) .nil)))) (.bin .add (.tup (.cons (.var 4) .nil)) (.var 5)))))
    .nil)
def l0_sets_of : Py.S := .fo (.tp [3, 4]) (.enum (.var 0)) l0b_sets_of
def b_sets_of : Py.Ss := (.cons (.ifs (.cmp .eq (.var 1) (.cst (.int 0))) (.cons (.retE (.lst (.cons (.tup .nil) .nil)))
    .nil) .nil)
    (.cons (.asg 2 (.lst .nil))
    (.cons l0_sets_of
    (.cons (.retE (.var 2))
    .nil))))
def f_sets_of : Py.Fd := ⟨2, 6, b_sets_of⟩
def l0b_fewest_reports : Py.Ss := (.cons (.asg 5 (.cmpi (.nm 6) (.seq (.call 94 (.cons (.call 4 (.cons (.var 0) .nil)) (.cons (.var 4) .nil)))) (.call 92 (.cons (.var 0) (.cons (.var 1) (.cons (.var 6) (.cons (.var 2) (.cons (.var 3) .nil)))))) (.var 6)))
    (.cons (.ifs (.cmp .ne (.var 5) (.lst .nil)) (.cons (.retE (.sub (.var 5) (.cst (.int 0))))
    .nil) .nil)
    .nil))
def l0_fewest_reports : Py.S := .fo (.nm 4) (.rng1 (.bin .add (.blt .len (.cons (.var 0) .nil)) (.cst (.int 1)))) l0b_fewest_reports
def b_fewest_reports : Py.Ss := (.cons (.exp (.call 91 (.cons (.var 0) (.cons (.var 1) (.cons (.var 2) (.cons (.var 3) .nil))))))
    (.cons l0_fewest_reports
    (.cons (.retE (.cst .non))
    .nil)))
def f_fewest_reports : Py.Fd := ⟨4, 7, b_fewest_reports⟩
def b_needed_reports : Py.Ss := (.cons (.exp (.call 91 (.cons (.var 0) (.cons (.var 1) (.cons (.var 2) (.cons (.var 3) .nil))))))
    (.cons (.asg 4 (.call 4 (.cons (.var 0) .nil)))
    (.cons (.ifs (.not (.call 92 (.cons (.var 0) (.cons (.var 1) (.cons (.var 4) (.cons (.var 2) (.cons (.var 3) .nil))))))) (.cons (.retE (.cst .non))
    .nil) .nil)
    (.cons (.asg 5 (.cmp0 (.nm 6) (.seq (.var 4)) (.cmpi (.nm 7) (.seq (.var 4)) (.cmp .ne (.var 7) (.var 6)) (.var 7))))
    (.cons (.retE (.cmpi (.tp [6, 8]) (.zip (.var 4) (.var 5)) (.not (.call 92 (.cons (.var 0) (.cons (.var 1) (.cons (.var 8) (.cons (.var 2) (.cons (.var 3) .nil))))))) (.var 6)))
    .nil)))))
def f_needed_reports : Py.Fd := ⟨4, 9, b_needed_reports⟩
def l0b_enough_reports : Py.Ss := (.cons (.ifs (.blt .all (.cons (.cmp0 (.nm 5) (.seq (.call 94 (.cons (.call 4 (.cons (.var 0) .nil)) (.cons (.var 4) .nil)))) (.call 92 (.cons (.var 0) (.cons (.var 1) (.cons (.var 5) (.cons (.var 2) (.cons (.var 3) .nil))))))) .nil)) (.cons (.retE (.var 4))
    .nil) .nil)
    .nil)
def l0_enough_reports : Py.S := .fo (.nm 4) (.rng1 (.bin .add (.blt .len (.cons (.var 0) .nil)) (.cst (.int 1)))) l0b_enough_reports
def b_enough_reports : Py.Ss := (.cons (.exp (.call 91 (.cons (.var 0) (.cons (.var 1) (.cons (.var 2) (.cons (.var 3) .nil))))))
    (.cons l0_enough_reports
    (.cons (.retE (.cst .non))
    .nil)))
def f_enough_reports : Py.Fd := ⟨4, 6, b_enough_reports⟩
def l0b__law_reports_v2 : Py.Ss := (.cons (.asg 5 (.bin .add (.bin .add (.var 1) (.cst (.int 1))) (.bin .mul (.cst (.int 3)) (.var 4))))
    (.cons (.asg 6 (.bin .mul (.call 88 (.cons (.var 0) (.cons (.var 5) (.cons (.cst (.int 12)) .nil)))) (.cst (.int 3))))
    (.cons (.asg 7 (.bin .add (.var 6) (.call 88 (.cons (.var 0) (.cons (.bin .add (.var 5) (.cst (.int 1))) (.cons (.cst (.int 25)) .nil))))))
    (.cons (.ifs (.cmp .eq (.call 88 (.cons (.var 0) (.cons (.bin .add (.var 5) (.cst (.int 2))) (.cons (.cst (.int 9)) .nil)))) (.cst (.int 0))) (.cons (.par [(false, 6), (false, 7)] (.cons (.bin .add (.cst (.int 9960)) (.var 6)) (.cons (.cst (.int 9999)) .nil)))
    .nil) .nil)
    (.cons (.app 3 (.tup (.cons (.sub (.cst (.str [97, 98, 99, 100, 101, 102, 103, 104, 105, 106])) (.var 4)) (.cons (.var 6) (.cons (.var 7) .nil)))))
    .nil)))))
def l0__law_reports_v2 : Py.S := .fo (.nm 4) (.rng1 (.call 88 (.cons (.var 0) (.cons (.var 1) (.cons (.bin .add (.var 2) (.cst (.int 1))) .nil))))) l0b__law_reports_v2
def b__law_reports_v2 : Py.Ss := (.cons (.own 3 (.lst .nil))
    (.cons l0__law_reports_v2
    (.cons (.retE (.blt .tuple (.cons (.peek 3) .nil)))
    .nil)))
def f__law_reports_v2 : Py.Fd := ⟨3, 8, b__law_reports_v2⟩
def l0b__law_possible : Py.Ss := (.cons (.asg 6 (.cmpi (.tp [7, 8, 9]) (.seq (.var 0)) (.not (.cmp2 .le .le (.var 8) (.var 4) (.var 9))) (.cst (.int 1))))
    (.cons (.ifs (.and (.cmp .lt (.var 4) (.cst (.int 10000))) (.and (.cmp .gt (.var 5) (.var 4)) (.cmp .le (.blt .len (.cons (.var 6) .nil)) (.var 1)))) (.cons (.ifs (.and (.cmp .ne (.peek 3) (.lst .nil)) (.cmp .eq (.sub (.sub (.peek 3) (.neg (.cst (.int 1)))) (.cst (.int 1))) (.bin .sub (.var 4) (.cst (.int 1))))) (.cons (.setL 3 (-1) (.tup (.cons (.sub (.sub (.peek 3) (.neg (.cst (.int 1)))) (.cst (.int 0))) (.cons (.bin .sub (.var 5) (.cst (.int 1))) .nil))))
    .nil) (.cons (.app 3 (.tup (.cons (.var 4) (.cons (.bin .sub (.var 5) (.cst (.int 1))) .nil))))
    .nil))
    .nil) .nil)
    .nil))
def l0__law_possible : Py.S := .fo (.tp [4, 5]) (.zip (.var 2) (.bin .add (.slL (.var 2) (.cst (.int 1))) (.lst (.cons (.cst (.int 10000)) .nil)))) l0b__law_possible
def b__law_possible : Py.Ss := (.cons (.asg 2 (.b1 .ssetI (.bin .add (.bin .add (.lst (.cons (.cst (.int 0)) .nil)) (.cmp0 (.tp [7, 8, 9]) (.seq (.var 0)) (.var 8))) (.cmp0 (.tp [7, 8, 9]) (.seq (.var 0)) (.bin .add (.var 9) (.cst (.int 1)))))))
    (.cons (.own 3 (.lst .nil))
    (.cons l0__law_possible
    (.cons (.retO 3)
    .nil))))
def f__law_possible : Py.Fd := ⟨2, 10, b__law_possible⟩
def b_check_agreed : Py.Ss := (.cons (.ifs (.not (.call 57 (.cons (.var 0) .nil))) (.cons (.rse 17)
    .nil) .nil)
    .nil)
def f_check_agreed : Py.Fd := ⟨1, 1, b_check_agreed⟩
def b_read_number : Py.Ss := (.cons (.ifs (.or (.not (.cmp2 .le .le (.cst (.int 1)) (.blt .len (.cons (.var 0) .nil)) (.glb 13))) (.not (.blt .all (.cons (.cmp0 (.nm 1) (.seq (.var 0)) (.cmp .inn (.var 1) (.glb 12))) .nil)))) (.cons (.retE (.cst .non))
    .nil) .nil)
    (.cons (.retE (.blt .int (.cons (.var 0) .nil)))
    .nil))
def f_read_number : Py.Fd := ⟨1, 2, b_read_number⟩
def l0b_subsets : Py.Ss := (.cons (.asg 1 (.bin .add (.var 1) (.cmp0 (.nm 3) (.seq (.var 1)) (.bin .add (.var 3) (.tup (.cons (.var 2) .nil))))))
    .nil)
def l0_subsets : Py.S := .fo (.nm 2) (.seq (.var 0)) l0b_subsets
def b_subsets : Py.Ss := (.cons (.asg 1 (.lst (.cons (.tup .nil) .nil)))
    (.cons l0_subsets
    (.cons (.retE (.blt .sortedN (.cons (.var 1) .nil)))
    .nil)))
def f_subsets : Py.Fd := ⟨1, 4, b_subsets⟩
def b_have_common_time : Py.Ss := (.cons (.retE (.or (.cmp .eq (.var 0) (.tup .nil)) (.cmp .le (.blt .max1I (.cons (.cmp0 (.tp [1, 2, 3]) (.seq (.var 0)) (.var 2)) .nil)) (.blt .min1I (.cons (.cmp0 (.tp [1, 2, 3]) (.seq (.var 0)) (.var 3)) .nil)))))
    .nil)
def f_have_common_time : Py.Fd := ⟨1, 4, b_have_common_time⟩
def l0b_naive_most_right : Py.Ss := (.cons (.ifs (.and (.cmp .gt (.blt .len (.cons (.var 2) .nil)) (.blt .len (.cons (.var 1) .nil))) (.call 103 (.cons (.var 2) .nil))) (.cons (.asg 1 (.var 2))
    .nil) .nil)
    .nil)
def l0_naive_most_right : Py.S := .fo (.nm 2) (.seq (.call 102 (.cons (.var 0) .nil))) l0b_naive_most_right
def b_naive_most_right : Py.Ss := (.cons (.exp (.call 6 (.cons (.var 0) .nil)))
    (.cons (.asg 1 (.tup .nil))
    (.cons l0_naive_most_right
    (.cons (.retE (.blt .tuple (.cons (.cmp0 (.tp [3, 4, 5]) (.seq (.var 1)) (.var 3)) .nil)))
    .nil))))
def f_naive_most_right : Py.Fd := ⟨1, 6, b_naive_most_right⟩
def l0b__law_pick_v2 : Py.Ss := (.cons (.par [(false, 5), (false, 6)] (.cons (.bin .fdiv (.var 5) (.cst (.int 840))) (.cons (.bin .sub (.var 6) (.cst (.int 1))) .nil)))
    .nil)
def l0__law_pick_v2 : Py.S := .whl 100000 (.and (.cmp .gt (.var 5) (.cst (.int 0))) (.cmp .gt (.var 6) (.cst (.int 0)))) l0b__law_pick_v2
def b__law_pick_v2 : Py.Ss := (.cons (.asg 3 (.ite (.cmp .ne (.var 0) (.lst .nil)) (.sub (.var 0) (.bin .mod (.blt .int (.cons (.var 1) .nil)) (.blt .len (.cons (.var 0) .nil)))) (.cst (.int 0))))
    (.cons (.par [(false, 5), (false, 6)] (.cons (.bin .fdiv (.var 3) (.bin .pow (.cst (.int 10)) (.cst (.int 18)))) (.cons (.bin .fdiv (.var 1) (.blt .max2 (.cons (.blt .len (.cons (.var 0) .nil)) (.cons (.cst (.int 1)) .nil)))) .nil)))
    (.cons l0__law_pick_v2
    (.cons (.ifs (.cmp .gt (.var 5) (.cst (.int 0))) (.cons (.retE (.bin .mod (.blt .int (.cons (.bin .mod (.blt .int (.cons (.var 5) .nil)) (.cst (.int 840))) .nil)) (.var 2)))
    .nil) .nil)
    (.cons (.asg 4 (.bin .mod (.blt .int (.cons (.bin .mul (.bin .add (.bin .mul (.var 3) (.cst (.int 31))) (.bin .mul (.cst (.int 6151)) (.bin .add (.var 1) (.cst (.int 1))))) (.cst (.int 40692))) .nil)) (.cst (.int 2147483399))))
    (.cons (.retE (.bin .mod (.blt .int (.cons (.bin .mod (.blt .int (.cons (.bin .add (.bin .mul (.var 4) (.var 4)) (.bin .fdiv (.var 4) (.cst (.int 31)))) .nil)) (.cst (.int 2147483629))) .nil)) (.var 2)))
    .nil))))))
def f__law_pick_v2 : Py.Fd := ⟨3, 7, b__law_pick_v2⟩
def b__law_reports_v3 : Py.Ss := (.cons (.own 0 (.lst (.cons (.cst .non) (.cons (.lst (.cons (.tup (.cons (.cst (.str [97])) (.cons (.cst (.int 0)) (.cons (.cst (.int 0)) .nil)))) .nil)) (.cons (.tup (.cons (.cst .non) .nil)) (.cons (.tup (.cons (.tup (.cons (.cst (.str [97])) (.cons (.cst (.int 1)) .nil))) .nil)) (.cons (.tup (.cons (.tup (.cons (.cst (.str [97])) (.cons (.cst (.int 0)) (.cons (.cst (.int 0)) (.cons (.cst (.int 0)) .nil))))) .nil)) (.cons (.tup (.cons (.lst (.cons (.cst (.str [97])) (.cons (.cst (.int 0)) (.cons (.cst (.int 0)) .nil)))) .nil)) .nil))))))))
    (.cons (.ext 0 (.lst (.cons (.tup (.cons (.tup (.cons (.cst (.str [97])) (.cons (.cst (.int 2)) (.cons (.cst (.int 1)) .nil)))) .nil)) (.cons (.tup (.cons (.tup (.cons (.cst (.str [97])) (.cons (.cst (.int 0)) (.cons (.cst (.int 10000)) .nil)))) .nil)) .nil))))
    (.cons (.ext 0 (.lst (.cons (.tup (.cons (.tup (.cons (.cst (.str [97])) (.cons (.neg (.cst (.int 1))) (.cons (.cst (.int 0)) .nil)))) .nil)) (.cons (.tup (.cons (.tup (.cons (.cst (.str [65])) (.cons (.cst (.int 0)) (.cons (.cst (.int 0)) .nil)))) .nil)) (.cons (.tup (.cons (.tup (.cons (.cst (.str [])) (.cons (.cst (.int 0)) (.cons (.cst (.int 0)) .nil)))) .nil)) (.cons (.tup (.cons (.tup (.cons (.cst (.str [97, 98, 99, 100])) (.cons (.cst (.int 0)) (.cons (.cst (.int 0)) .nil)))) .nil)) (.cons (.tup (.cons (.tup (.cons (.cst (.str [97])) (.cons (.cst (.bl true)) (.cons (.cst (.int 1)) .nil)))) .nil)) .nil)))))))
    (.cons (.app 0 (.tup (.cons (.tup (.cons (.cst (.int 1)) (.cons (.cst (.int 0)) (.cons (.cst (.int 0)) .nil)))) .nil)))
    (.cons (.ext 0 (.lst (.cons (.tup (.cons (.tup (.cons (.cst (.str [98])) (.cons (.cst (.int 0)) (.cons (.cst (.int 0)) .nil)))) (.cons (.tup (.cons (.cst (.str [97])) (.cons (.cst (.int 0)) (.cons (.cst (.int 0)) .nil)))) .nil))) (.cons (.tup (.cons (.tup (.cons (.cst (.str [97])) (.cons (.cst (.int 0)) (.cons (.cst (.int 0)) .nil)))) (.cons (.tup (.cons (.cst (.str [97])) (.cons (.cst (.int 0)) (.cons (.cst (.int 0)) .nil)))) .nil))) (.cons (.tup (.cons (.tup (.cons (.cst (.str [97])) (.cons (.cst (.int 0)) (.cons (.cst .non) .nil)))) .nil)) (.cons (.cst (.str [97, 98, 99])) .nil))))))
    (.cons (.asg 1 (.blt .tuple (.cons (.cmp0 (.nm 4) (.seq (.cst (.str [97, 98, 99, 100, 101, 102, 103, 104, 105, 106, 107]))) (.tup (.cons (.var 4) (.cons (.cst (.int 0)) (.cons (.cst (.int 9999)) .nil))))) .nil)))
    (.cons (.ifs (.or (.not (.blt .all (.cons (.cmp0 (.nm 5) (.seq (.peek 0)) (.isC false (.call 5 (.cons (.var 5) .nil)) (.bl false))) .nil))) (.isC true (.call 5 (.cons (.var 1) .nil)) (.bl false))) (.cons (.retE (.cst (.bl false)))
    .nil) .nil)
    (.cons (.par [(false, 2), (false, 3)] (.cons (.tup (.cons (.tup (.cons (.cst (.str [97])) (.cons (.cst (.int 10)) (.cons (.cst (.int 20)) .nil)))) (.cons (.tup (.cons (.cst (.str [98])) (.cons (.cst (.int 15)) (.cons (.cst (.int 30)) .nil)))) (.cons (.tup (.cons (.cst (.str [99])) (.cons (.cst (.int 18)) (.cons (.cst (.int 19)) .nil)))) (.cons (.tup (.cons (.cst (.str [100])) (.cons (.cst (.int 40)) (.cons (.cst (.int 50)) .nil)))) .nil))))) (.cons (.lst (.cons (.tup (.cons (.cst (.str [97])) (.cons (.cst (.str [100])) .nil))) (.cons (.tup (.cons (.cst (.str [98])) .nil)) (.cons (.tup (.cons (.cst (.str [99])) .nil)) .nil)))) .nil)))
    (.cons (.own 0 (.lst (.cons (.cst .non) (.cons (.blt .tuple (.cons (.var 3) .nil)) (.cons (.bin .add (.var 3) (.lst (.cons (.tup .nil) .nil))) (.cons (.slH (.var 3) (.cst (.int 2))) (.cons (.bin .add (.var 3) (.lst (.cons (.tup (.cons (.cst (.str [99])) .nil)) .nil))) (.cons (.lst (.cons (.tup (.cons (.cst (.str [97])) (.cons (.cst (.str [98])) .nil))) (.cons (.tup (.cons (.cst (.str [99])) .nil)) (.cons (.tup (.cons (.cst (.str [100])) .nil)) .nil)))) .nil))))))))
    (.cons (.app 0 (.bin .add (.lst (.cons (.lst (.cons (.cst (.str [97])) (.cons (.cst (.str [100])) .nil))) .nil)) (.slL (.var 3) (.cst (.int 1)))))
    (.cons (.ext 0 (.lst (.cons (.bin .add (.var 3) (.lst (.cons (.tup (.cons (.cst (.str [101])) .nil)) .nil))) (.cons (.bin .add (.lst (.cons (.tup (.cons (.cst (.str [97])) (.cons (.cst .non) .nil))) .nil)) (.slL (.var 3) (.cst (.int 1)))) (.cons (.bin .add (.var 3) (.lst (.cons (.cst .non) .nil))) (.cons (.bin .add (.lst (.cons (.tup (.cons (.cst (.str [97])) (.cons (.cst (.str [100])) (.cons (.cst (.str [100])) .nil)))) .nil)) (.slL (.var 3) (.cst (.int 1)))) .nil))))))
    (.cons (.app 0 (.lst .nil))
    (.cons (.ifs (.or (.not (.blt .all (.cons (.cmp0 (.nm 5) (.seq (.peek 0)) (.isC false (.call 42 (.cons (.var 2) (.cons (.var 5) .nil))) (.bl false))) .nil))) (.isC true (.call 42 (.cons (.var 2) (.cons (.var 3) .nil))) (.bl true))) (.cons (.retE (.cst (.bl false)))
    .nil) .nil)
    (.cons (.retE (.and (.isC false (.call 5 (.cons (.slH (.var 1) (.cst (.int 10))) .nil)) (.bl true)) (.and (.isC false (.call 5 (.cons (.tup (.cons (.tup (.cons (.cst (.str [97, 98, 99])) (.cons (.cst (.int 0)) (.cons (.cst (.int 9999)) .nil)))) .nil)) .nil)) (.bl true)) (.isC false (.call 42 (.cons (.tup .nil) (.cons (.lst .nil) .nil))) (.bl true)))))
    .nil))))))))))))))
def f__law_reports_v3 : Py.Fd := ⟨0, 6, b__law_reports_v3⟩
def l0b_classes : Py.Ss := (.cons (.asg 5 (.cmpi (.nm 6) (.seq (.peek 1)) (.cmp .lt (.subC (.var 6) (.cst (.int 0))) (.var 2)) (.var 6)))
    (.cons (.ifs (.isE false (.var 5)) (.cons (.app 1 (.cell (.lst (.cons (.var 3) (.cons (.tup (.cons (.var 4) .nil)) .nil)))))
    .nil) (.cons (.setC2 (.sub (.var 5) (.cst (.int 0))) (.cst (.int 0)) (.cst (.int 1)) (.var 3) (.bin .add (.subC (.sub (.var 5) (.cst (.int 0))) (.cst (.int 1))) (.tup (.cons (.var 4) .nil))))
    .nil))
    .nil))
def l0_classes : Py.S := .fo (.tp [2, 3, 4]) (.seq (.blt .sortedN (.cons (.cmp0 (.tp [4, 2, 3]) (.seq (.var 0)) (.tup (.cons (.var 2) (.cons (.var 3) (.cons (.var 4) .nil))))) .nil))) l0b_classes
def b_classes : Py.Ss := (.cons (.exp (.call 6 (.cons (.var 0) .nil)))
    (.cons (.own 1 (.lst .nil))
    (.cons l0_classes
    (.cons (.retE (.cmpL [3, 7] (.peek 1) (.var 7)))
    .nil))))
def f_classes : Py.Fd := ⟨1, 8, b_classes⟩
def l1b_naive_possible : Py.Ss := (.cons (.asg 9 (.bin .add (.var 9) (.getD (.var 2) (.var 3) (.cst (.int 0)))))
    (.cons (.ifs (.cmp .le (.bin .sub (.blt .len (.cons (.var 0) .nil)) (.var 9)) (.var 1)) (.cons (.asg 8 (.ite (.isC false (.var 8) .non) (.var 3) (.var 8)))
    .nil) (.cons (.ifs (.isC true (.var 8) .non) (.cons (.app 7 (.tup (.cons (.var 8) (.cons (.bin .sub (.var 3) (.cst (.int 1))) .nil))))
    (.cons (.asg 8 (.cst .non))
    .nil)) .nil)
    .nil))
    .nil))
def l1_naive_possible : Py.S := .fo (.nm 3) (.rng1 (.bin .add (.glb 0) (.cst (.int 1)))) l1b_naive_possible
def l0b_naive_possible : Py.Ss := (.cons (.setK (.var 2) (.var 5) (.bin .add (.getD (.var 2) (.var 5) (.cst (.int 0))) (.cst (.int 1))))
    (.cons (.setK (.var 2) (.bin .add (.var 6) (.cst (.int 1))) (.bin .sub (.getD (.var 2) (.bin .add (.var 6) (.cst (.int 1))) (.cst (.int 0))) (.cst (.int 1))))
    .nil))
def l0_naive_possible : Py.S := .fo (.tp [4, 5, 6]) (.seq (.var 0)) l0b_naive_possible
def b_naive_possible : Py.Ss := (.cons (.exp (.call 6 (.cons (.var 0) .nil)))
    (.cons (.exp (.call 21 (.cons (.var 1) .nil)))
    (.cons (.asg 2 .newD)
    (.cons l0_naive_possible
    (.cons (.par [(true, 7), (false, 8), (false, 9)] (.cons (.lst .nil) (.cons (.cst .non) (.cons (.cst (.int 0)) .nil))))
    (.cons l1_naive_possible
    (.cons (.retE (.call 20 (.cons (.bin .add (.peek 7) (.ite (.isC false (.var 8) .non) (.lst .nil) (.lst (.cons (.tup (.cons (.var 8) (.cons (.glb 0) .nil))) .nil)))) .nil)))
    .nil)))))))
def f_naive_possible : Py.Fd := ⟨2, 10, b_naive_possible⟩
def uDefs : List Py.Fd := [f_is_integer, f_is_time, f_is_name, f_is_report, f_sources, f_are_reports, f_check_reports, f_right_names, f_right_at, f_borders, f_pieces, f_profile, f_are_names, f_without, f_together, f__law_pick, f__law_value, f__law_reports, f__law_times, f__law_right, f_merged, f_check_liars, f_times_with, f_possible_times, f_possible, f_hull, f_agreed, f_most_together, f_fewest_liars, f_best_times, f__law_ranges, f__law_hull, f_check_possible, f_right_sets, f_surely_right, f_surely_lying, f_liar_sets, f_is_certain, f_contained, f_surest, f_are_disjoint, f_judged, f_are_classes, f_most_right, f_shows, f_check_right, f_reachable_times, f_reachable, f_worst_agreed, f_always_agreed, f_check_sum, f_worst_lies, f_are_worst_lies, f__law_near, f__law_with, f__law_inside, f_bounding_source, f_is_range, f_are_ranges, f_common, f_grown, f_is_moment, f_is_round, f_is_log, f_check_pace, f_carried, f_check_log, f_led_through, f_followed, f_small_sets, f_led_without, f_followed_fixed, f_suspects, f__law_log, f__law_pace, f__law_neat, f__law_dp, f_is_exchange, f_check_exchange, f_find_delay, f_find_offsets, f_delay, f_offsets, f_check_delays, f_offsets_with, f_common_offsets, f_delayed, f_report_of, f__law_drawn, f__law_exchange, f_check_times, f_check_question, f_is_enough, f_suffices, f_sets_of, f_fewest_reports, f_needed_reports, f_enough_reports, f__law_reports_v2, f__law_possible, f_check_agreed, f_read_number, f_subsets, f_have_common_time, f_naive_most_right, f__law_pick_v2, f__law_reports_v3, f_classes, f_naive_possible]
def uGs : List Py.D := [(.int 9999), (.int 10), (.int 3), (.str [97, 98, 99, 100, 101, 102, 103, 104, 105, 106, 107, 108, 109, 110, 111, 112, 113, 114, 115, 116, 117, 118, 119, 120, 121, 122]), (.int 10), (.int 6), (.int 999), (.int 6), (.int 9), (.int 10), (.int 1000), .non, (.str [48, 49, 50, 51, 52, 53, 54, 55, 56, 57]), (.int 4), (.str [44, 32])]
/-- the classes: 0 VoteError, 1 InvalidReports, 2 InvalidTime, 3 InvalidNames, 4 TooLarge, 5 InvalidNumber, 6 Contradiction, 7 NotRight, 8 InvalidRanges, 9 InvalidMoment, 10 InvalidPace, 11 InvalidLog, 12 InvalidExchange, 13 InvalidExchanges, 14 InvalidDelays, 15 InvalidName, 16 InvalidTicks, 17 InvalidRange, 18 Clock, 19 InvalidReport, 20 AlreadyThere, 21 NotThere, 22 NothingToUndo, 23 Desk, 24 ParseError -/
def uSub (n m : Nat) : Bool := n == m || m == 0
def uIni : Nat → Option Nat := fun _ => none
def uMt : Nat → Nat → Option Nat := fun _ _ => none
def U (X : List Py.Fd) : Py.Prog := ⟨fun i => if i < 200 then uDefs[i]? else X[i - 200]?, fun i => uGs.getD i .non, uSub, uIni, uMt⟩
end Lw
end
section
/-! how the interpreter runs: rules for simp -/
namespace Py
@[simp] theorem oret (d : D) : outM (retS d) = ret d := Eq.trans rfl rfl
@[simp] theorem onext (r : Env) : outM (nextS r) = ret .non := Eq.trans rfl rfl
@[simp] theorem orse (c : Nat) (r : Env) : outM (rseS c r) = rse c := Eq.trans rfl rfl
@[simp] theorem oite {p : Prop} [Decidable p] (a b : SM) : outM (if p then a else b) = if p then outM a else outM b := by split <;> rfl
@[simp] theorem bite {α β : Type} {p : Prop} [Decidable p] (a b : M α) (f : α → M β) : bnd (if p then a else b) f = if p then bnd a f else bnd b f := by split <;> rfl
@[simp] theorem beite {α : Type} {p : Prop} [Decidable p] (r : Env) (a b : M α) (f : α → SM) : bndE r (if p then a else b) f = if p then bndE r a f else bndE r b f := by split <;> rfl
@[simp] theorem bndE_fail {α : Type} (r : Env) (f : α → SM) : bndE r fail f = failS := Eq.trans rfl rfl
@[simp] theorem lite {α : Type} {p : Prop} [Decidable p] (a b : Option α) : lif (if p then a else b) = if p then lif a else lif b := by split <;> rfl
@[simp] theorem noexc_ite {α : Type} {p : Prop} [Decidable p] (a b : M α) : noexc (if p then a else b) = if p then noexc a else noexc b := by split <;> rfl
@[simp] theorem and_ret {p : Prop} [Decidable p] (q : Bool) : (if p then ret (D.bl q) else ret (D.bl false)) = ret (D.bl (decide p && q)) := by by_cases h : p <;> simp [h]
@[simp] theorem or_ret {p : Prop} [Decidable p] (q : Bool) : (if p then ret (D.bl true) else ret (D.bl q)) = ret (D.bl (decide p || q)) := by by_cases h : p <;> simp [h]
@[simp] theorem and_bl {p : Prop} [Decidable p] (q : Bool) : (if p then ret q else ret false) = ret (decide p && q) := by by_cases h : p <;> simp [h]
@[simp] theorem or_bl {p : Prop} [Decidable p] (q : Bool) : (if p then ret true else ret q) = ret (decide p || q) := by by_cases h : p <;> simp [h]
/-! ### slots -/
@[simp] theorem get0 (a : Slot) (r : Env) : Env.get (a :: r) 0 = a := Eq.trans rfl rfl
@[simp] theorem getS (a : Slot) (r : Env) (n : Nat) : Env.get (a :: r) (n + 1) = Env.get r n := Eq.trans rfl rfl
@[simp] theorem val_v (d : D) : Slot.val (.v d) = some d := Eq.trans rfl rfl
@[simp] theorem val_o (xs : List D) : Slot.val (.o xs) = none := Eq.trans rfl rfl
@[simp] theorem val_n : Slot.val .none = none := Eq.trans rfl rfl
@[simp] theorem own_o (xs : List D) : Slot.own (.o xs) = some xs := Eq.trans rfl rfl
@[simp] theorem own_v (d : D) : Slot.own (.v d) = none := Eq.trans rfl rfl
@[simp] theorem exc_x (n : Nat) : Slot.exc (.x n) = some n := Eq.trans rfl rfl
@[simp] theorem tru_bl (b : Bool) : tru (.bl b) = some b := Eq.trans rfl rfl
@[simp] theorem asInt_int (i : Int) : asInt (.int i) = some i := Eq.trans rfl rfl
@[simp] theorem lstD_lst (xs : List D) : lstD (.lst xs) = some xs := Eq.trans rfl rfl
@[simp] theorem extD_lst (xs : List D) : extD (.lst xs) = some xs := Eq.trans rfl rfl
@[simp] theorem extD_tup (xs : List D) : extD (.tup xs) = some xs := Eq.trans rfl rfl
@[simp] theorem unpD_tup (xs : List D) : unpD (.tup xs) = some xs := Eq.trans rfl rfl
@[simp] theorem unpD_lst (xs : List D) : unpD (.lst xs) = some xs := Eq.trans rfl rfl
@[simp] theorem fnD_fn (f : Nat) : fnD (.fn f) = some f := Eq.trans rfl rfl
@[simp] theorem setAll_nil (r : Env) : setAll r [] [] = some r := Eq.trans rfl rfl
@[simp] theorem setAll_cons (r : Env) (i : Nat) (is : List Nat) (d : D) (ds : List D) : setAll r (i :: is) (d :: ds) = setAll (r.set i (.v d)) is ds := Eq.trans rfl rfl
@[simp] theorem setPar_nil (r : Env) : setPar r [] [] = some r := Eq.trans rfl rfl
@[simp] theorem setPar_v (r : Env) (i : Nat) (is : List (Bool × Nat)) (d : D) (ds : List D) : setPar r ((false, i) :: is) (d :: ds) = setPar (r.set i (.v d)) is ds := Eq.trans rfl rfl
@[simp] theorem setPar_o (r : Env) (i : Nat) (is : List (Bool × Nat)) (xs ds : List D) : setPar r ((true, i) :: is) (.lst xs :: ds) = setPar (r.set i (.o xs)) is ds := Eq.trans rfl rfl
@[simp] theorem slotOf_o (xs : List D) : slotOf true (.lst xs) = some (.o xs) := Eq.trans rfl rfl
@[simp] theorem bindT_nm (r : Env) (i : Nat) (d : D) : bindT r (.nm i) d = some (r.set i (.v d)) := Eq.trans rfl rfl
@[simp] theorem bindT_tp (r : Env) (is : List Nat) (xs : List D) : bindT r (.tp is) (.tup xs) = setAll r is xs := Eq.trans rfl rfl
@[simp] theorem wipeT_nm (r : Env) (i : Nat) : wipeT r (.nm i) = r.set i .none := Eq.trans rfl rfl
@[simp] theorem wipeT_tp (r : Env) (is : List Nat) : wipeT r (.tp is) = is.foldr (fun i r => r.set i .none) r := Eq.trans rfl rfl
/-! ### expressions (at an environment that is there) -/
section
variable (L : Lk) (s0 : Slot) (r : Env)
@[simp] theorem ev_cst (d : D) : ev L (.cst d) (s0 :: r) = ret d := by rw [ev]
@[simp] theorem ev_var (i : Nat) : ev L (.var i) (s0 :: r) = lif ((Env.get (s0 :: r) i).val) := by rw [ev]
@[simp] theorem ev_peek (i : Nat) : ev L (.peek i) (s0 :: r) = lif ((Env.get (s0 :: r) i).own.map .lst) := by rw [ev]
@[simp] theorem ev_glb (x : Nat) : ev L (.glb x) (s0 :: r) = ret (L.g x) := by rw [ev]
@[simp] theorem ev_fnv (f : Nat) : ev L (.fnv f) (s0 :: r) = ret (.fn f) := by rw [ev]
@[simp] theorem ev_bin (o : Bop) (a b : E) : ev L (.bin o a b) (s0 :: r) = bnd (ev L a (s0 :: r)) fun x => bnd (ev L b (s0 :: r)) fun y => lif (binD o x y) := by rw [ev]
@[simp] theorem ev_neg (a : E) : ev L (.neg a) (s0 :: r) = bnd (ev L a (s0 :: r)) fun x => lif ((asInt x).map fun i => .int (-i)) := by rw [ev]
@[simp] theorem ev_not (a : E) : ev L (.not a) (s0 :: r) = bnd (ev L a (s0 :: r)) fun x => lif ((tru x).map fun b => .bl (!b)) := by rw [ev]
@[simp] theorem ev_and (a b : E) : ev L (.and a b) (s0 :: r) = bnd (ev L a (s0 :: r)) fun x => bnd (lif (tru x)) fun k => if k = true then ev L b (s0 :: r) else ret (.bl false) := by rw [ev]
@[simp] theorem ev_or (a b : E) : ev L (.or a b) (s0 :: r) = bnd (ev L a (s0 :: r)) fun x => bnd (lif (tru x)) fun k => if k = true then ret (.bl true) else ev L b (s0 :: r) := by rw [ev]
@[simp] theorem ev_cmp (o : Cop) (a b : E) : ev L (.cmp o a b) (s0 :: r) = bnd (ev L a (s0 :: r)) fun x => bnd (ev L b (s0 :: r)) fun y => lif ((cmpD o x y).map .bl) := by rw [ev]
@[simp] theorem ev_cmp2 (o o' : Cop) (a b c : E) : ev L (.cmp2 o o' a b c) (s0 :: r) = bnd (ev L a (s0 :: r)) fun x => bnd (ev L b (s0 :: r)) fun y => bnd (lif (cmpD o x y)) fun k => if k = true then bnd (ev L c (s0 :: r)) fun z => lif ((cmpD o' y z).map .bl) else ret (.bl false) := by rw [ev]
@[simp] theorem ev_cmp3 (o o' o'' : Cop) (a b c d : E) : ev L (.cmp3 o o' o'' a b c d) (s0 :: r) = bnd (ev L a (s0 :: r)) fun x => bnd (ev L b (s0 :: r)) fun y => bnd (lif (cmpD o x y)) fun k => if k = true then
      bnd (ev L c (s0 :: r)) fun z => bnd (lif (cmpD o' y z)) fun k => if k = true then bnd (ev L d (s0 :: r)) fun u => lif ((cmpD o'' z u).map .bl) else ret (.bl false)
      else ret (.bl false) := by rw [ev]
@[simp] theorem ev_isC (n : Bool) (a : E) (d : D) : ev L (.isC n a d) (s0 :: r) = bnd (ev L a (s0 :: r)) fun x => lif (isCD n d x) := by rw [ev]
@[simp] theorem ev_ite (c a b : E) : ev L (.ite c a b) (s0 :: r) = bnd (ev L c (s0 :: r)) fun x => bnd (lif (tru x)) fun k => if k = true then ev L a (s0 :: r) else ev L b (s0 :: r) := by rw [ev]
@[simp] theorem ev_call (f : Nat) (es : Es) : ev L (.call f es) (s0 :: r) = bnd (evs L es (s0 :: r)) fun xs => L.φ f xs := by rw [ev]
@[simp] theorem ev_calv (f : E) (es : Es) : ev L (.calv f es) (s0 :: r) = bnd (ev L f (s0 :: r)) fun x => bnd (lif (fnD x)) fun f => bnd (evs L es (s0 :: r)) fun xs => L.φ f xs := by rw [ev]
@[simp] theorem ev_blt (b : Blt) (es : Es) : ev L (.blt b es) (s0 :: r) = bnd (evs L es (s0 :: r)) fun xs => lif (bltD b xs) := by rw [ev]
@[simp] theorem ev_b1 (b : Blt) (a : E) : ev L (.b1 b a) (s0 :: r) = bnd (ev L a (s0 :: r)) fun x => lif (bltD b [x]) := by rw [ev]
@[simp] theorem ev_b2 (b : Blt) (a a' : E) : ev L (.b2 b a a') (s0 :: r) = bnd (ev L a (s0 :: r)) fun x => bnd (ev L a' (s0 :: r)) fun y => lif (bltD b [x, y]) := by rw [ev]
@[simp] theorem ev_sidx (cs : Tx) (e : E) : ev L (.sidx cs e) (s0 :: r) = bnd (ev L e (s0 :: r)) fun y => lif (sidxD cs y) := by rw [ev]
@[simp] theorem ev_idx (a e : E) : ev L (.idx a e) (s0 :: r) = bnd (ev L a (s0 :: r)) fun x => bnd (lif (lstD x)) fun xs => bnd (ev L e (s0 :: r)) fun y => lif (indexD xs y) := by rw [ev]
@[simp] theorem ev_cnt (a e : E) : ev L (.cnt a e) (s0 :: r) = bnd (ev L a (s0 :: r)) fun x => bnd (lif (lstD x)) fun xs => bnd (ev L e (s0 :: r)) fun y => lif (countD xs y) := by rw [ev]
@[simp] theorem ev_isi (a : E) (t : Ty) : ev L (.isi a t) (s0 :: r) = bnd (ev L a (s0 :: r)) fun x => lif ((isTy t x).map .bl) := by rw [ev]
@[simp] theorem ev_ise (i c : Nat) : ev L (.ise i c) (s0 :: r) = lif ((Env.get (s0 :: r) i).exc.map fun n => .bl (L.sub n c)) := by rw [ev]
@[simp] theorem ev_sub (a i : E) : ev L (.sub a i) (s0 :: r) = bnd (ev L a (s0 :: r)) fun x => bnd (ev L i (s0 :: r)) fun y => lif (subD x y) := by rw [ev]
@[simp] theorem ev_slL (a lo : E) : ev L (.slL a lo) (s0 :: r) = bnd (ev L a (s0 :: r)) fun x => bnd (ev L lo (s0 :: r)) fun y => lif ((asInt y).bind fun i => slcD x (some i) none) := by rw [ev]
@[simp] theorem ev_slH (a hi : E) : ev L (.slH a hi) (s0 :: r) = bnd (ev L a (s0 :: r)) fun x => bnd (ev L hi (s0 :: r)) fun y => lif ((asInt y).bind fun i => slcD x none (some i)) := by rw [ev]
@[simp] theorem ev_slB (a lo hi : E) : ev L (.slB a lo hi) (s0 :: r) = bnd (ev L a (s0 :: r)) fun x => bnd (ev L lo (s0 :: r)) fun y => bnd (lif (asInt y)) fun i => bnd (ev L hi (s0 :: r)) fun z => lif ((asInt z).bind fun j => slcD x (some i) (some j)) := by rw [ev]
@[simp] theorem ev_rev (a : E) : ev L (.rev a) (s0 :: r) = bnd (ev L a (s0 :: r)) fun x => lif (revD x) := by rw [ev]
@[simp] theorem ev_tup (es : Es) : ev L (.tup es) (s0 :: r) = bnd (evs L es (s0 :: r)) fun xs => ret (.tup xs) := by rw [ev]
@[simp] theorem ev_lst (es : Es) : ev L (.lst es) (s0 :: r) = bnd (evs L es (s0 :: r)) fun xs => ret (.lst xs) := by rw [ev]
@[simp] theorem ev_cmp0 (t : Tgt) (it : It) (e : E) : ev L (.cmp0 t it e) (s0 :: r) = bnd (evi L it (s0 :: r)) fun xs => bnd (compM xs fun x => noexc (bnd (lif (bindT (wipeT (s0 :: r) t) t x)) fun r' => bnd (ev L e r') fun y => ret (some y))) fun ys => ret (.lst ys) := by rw [ev]
@[simp] theorem ev_cmpi (t : Tgt) (it : It) (c e : E) : ev L (.cmpi t it c e) (s0 :: r) = bnd (evi L it (s0 :: r)) fun xs => bnd (compM xs fun x => noexc (bnd (lif (bindT (wipeT (s0 :: r) t) t x)) fun r' => bnd (ev L c r') fun k => bnd (lif (tru k)) fun k =>
      if k = true then bnd (ev L e r') fun y => ret (some y) else ret none)) fun ys => ret (.lst ys) := by rw [ev]
@[simp] theorem ev_cell (a : E) : ev L (.cell a) (s0 :: r) = bnd (ev L a (s0 :: r)) fun x => bnd (lif (lstD x)) fun xs => alloc (.lst xs) := by rw [ev]
@[simp] theorem ev_newI (c : Nat) (es : Es) : ev L (.newI c es) (s0 :: r) = bnd (evs L es (s0 :: r)) fun xs => bnd (alloc (.ins c [])) fun o => bnd (lif (L.ini c)) fun i => bnd (L.φ i (o :: xs)) fun z => bnd (lif (nonD z)) fun _ => ret o := by rw [ev]
@[simp] theorem ev_fld (a : E) (x : Nat) : ev L (.fld a x) (s0 :: r) = bnd (ev L a (s0 :: r)) fun o => bnd (getA o) fun p => lif (p.2.lookup x) := by rw [ev]
@[simp] theorem ev_meth (c x : Nat) (a : E) (es : Es) : ev L (.meth c x a es) (s0 :: r) = bnd (ev L a (s0 :: r)) fun o => bnd (getA o) fun p => bnd (lif (if p.1 = c ∧ p.2.lookup x = none then L.mt c x else none)) fun i => bnd (evs L es (s0 :: r)) fun xs => L.φ i (o :: xs) := by rw [ev]
@[simp] theorem ev_subC (a i : E) : ev L (.subC a i) (s0 :: r) = bnd (ev L a (s0 :: r)) fun o => bnd (ev L i (s0 :: r)) fun y => bnd (getL o) fun xs => lif (subD (.lst xs) y) := by rw [ev]
@[simp] theorem ev_cmpC (o : Cop) (a b : E) : ev L (.cmpC o a b) (s0 :: r) = bnd (ev L a (s0 :: r)) fun x => bnd (ev L b (s0 :: r)) fun y => bnd (getL x) fun xs => lif ((cmpD o (.lst xs) y).map .bl) := by rw [ev]
@[simp] theorem ev_isE (n : Bool) (a : E) : ev L (.isE n a) (s0 :: r) = bnd (ev L a (s0 :: r)) fun x => lif ((lstD x).map fun xs => .bl (if n then !xs.isEmpty else xs.isEmpty)) := by rw [ev]
@[simp] theorem ev_tupC (a : E) : ev L (.tupC a) (s0 :: r) = bnd (ev L a (s0 :: r)) fun o => bnd (getL o) fun xs => ret (.tup xs) := by rw [ev]
@[simp] theorem ev_lstC (a : E) : ev L (.lstC a) (s0 :: r) = bnd (ev L a (s0 :: r)) fun o => bnd (getL o) fun xs => ret (.lst xs) := by rw [ev]
@[simp] theorem ev_appC (a e : E) : ev L (.appC a e) (s0 :: r) = bnd (ev L a (s0 :: r)) fun o => bnd (getL o) fun _ => bnd (ev L e (s0 :: r)) fun d => bnd (getL o) fun xs => if xs.length < LIM then wrC o (.lst (xs ++ [d])) else fail := by rw [ev]
@[simp] theorem ev_popC (a : E) : ev L (.popC a) (s0 :: r) = bnd (ev L a (s0 :: r)) fun o => bnd (getL o) fun xs => bnd (lif xs.getLast?) fun d => bnd (wrC o (.lst xs.dropLast)) fun _ => ret d := by rw [ev]
@[simp] theorem ev_insC (a i e : E) : ev L (.insC a i e) (s0 :: r) = bnd (ev L a (s0 :: r)) fun o => bnd (getL o) fun _ => bnd (ev L i (s0 :: r)) fun k => bnd (ev L e (s0 :: r)) fun d => bnd (getL o) fun xs => bnd (lif (asInt k)) fun k => if 0 ≤ k ∧ k < 1000000 ∧ xs.length < LIM then wrC o (.lst (xs.take k.toNat ++ [d] ++ xs.drop k.toNat)) else fail := by rw [ev]
@[simp] theorem ev_isiC (a : E) (t : Ty) : ev L (.isiC a t) (s0 :: r) = bnd (ev L a (s0 :: r)) fun o => bnd (getL o) fun _ => ret (.bl (decide (t = .list))) := by rw [ev]
@[simp] theorem ev_isO (a : E) (c : Nat) : ev L (.isO a c) (s0 :: r) = bnd (ev L a (s0 :: r)) fun x => match x with
    | .loc n => bnd (getA (.loc n)) fun p => ret (.bl (p.1 == c))
    | .tup _ => ret (.bl false)
    | _ => fail := by rw [ev] <;> rfl
@[simp] theorem ev_lenO (c x : Nat) (a : E) : ev L (.lenO c x a) (s0 :: r) = bnd (ev L a (s0 :: r)) fun o => bnd (getA o) fun p => bnd (lif (if p.1 = c then L.mt c x else none)) fun i => bnd (L.φ i [o]) fun z => lif (lenOk z) := by rw [ev]
@[simp] theorem ev_eqO (n : Bool) (c x : Nat) (a b : E) : ev L (.eqO n c x a b) (s0 :: r) = bnd (ev L a (s0 :: r)) fun o => bnd (ev L b (s0 :: r)) fun y => bnd (getA o) fun p => bnd (lif (if p.1 = c then L.mt c x else none)) fun i => bnd (L.φ i [o, y]) fun z => lif ((tru z).map fun k => .bl (if n then !k else k)) := by rw [ev]
@[simp] theorem ev_newD : ev L .newD (s0 :: r) = alloc (.dct []) := by rw [ev]
@[simp] theorem ev_getD (a k e : E) : ev L (.getD a k e) (s0 :: r) = bnd (ev L a (s0 :: r)) fun o => bnd (getK o) fun _ => bnd (ev L k (s0 :: r)) fun y => bnd (ev L e (s0 :: r)) fun z => bnd (getK o) fun kvs => lif ((asInt y).map fun k => (valD kvs k).getD z) := by rw [ev]
@[simp] theorem ev_cmpL (is : List Nat) (a e : E) : ev L (.cmpL is a e) (s0 :: r) = bnd (ev L a (s0 :: r)) fun x => bnd (lif (lstD x)) fun xs => bnd (compM xs fun x => noexc (bnd (getL x) fun ys => bnd (lif (bindT (wipeT (s0 :: r) (.tp is)) (.tp is) (.tup ys))) fun r' => bnd (ev L e r') fun y => ret (some y))) fun ys => ret (.lst ys) := by rw [ev]
@[simp] theorem ev_cmpS (o : Cop) (a b : E) : ev L (.cmpS o a b) (s0 :: r) = bnd (ev L a (s0 :: r)) fun x => bnd (lif (lstD x)) fun xs => bnd (ev L b (s0 :: r)) fun y => bnd (snapM xs) fun zs => lif ((cmpD o (.lst zs) y).map .bl) := by rw [ev]
@[simp] theorem ev_callF (f : Nat) (es : Es) : ev L (.callF f es) (s0 :: r) = bnd (evs L es (s0 :: r)) fun xs => L.φ f xs := by rw [ev]
@[simp] theorem ev_methF (c x : Nat) (a : E) (es : Es) : ev L (.methF c x a es) (s0 :: r) = bnd (ev L a (s0 :: r)) fun o => bnd (getA o) fun p => bnd (lif (if p.1 = c ∧ p.2.lookup x = none then L.mt c x else none)) fun i => bnd (evs L es (s0 :: r)) fun xs => L.φ i (o :: xs) := by rw [ev]
@[simp] theorem evs_nil : evs L .nil (s0 :: r) = ret [] := by rw [evs]
@[simp] theorem evs_cons (e : E) (es : Es) : evs L (.cons e es) (s0 :: r) = bnd (ev L e (s0 :: r)) fun x => bnd (evs L es (s0 :: r)) fun xs => ret (x :: xs) := by rw [evs]
@[simp] theorem evi_seq (a : E) : evi L (.seq a) (s0 :: r) = bnd (ev L a (s0 :: r)) fun x => lif (itD x) := by rw [evi]
@[simp] theorem evi_rng1 (a : E) : evi L (.rng1 a) (s0 :: r) = bnd (ev L a (s0 :: r)) fun x => lif ((asInt x).bind fun j => rngD 0 j) := by rw [evi]
@[simp] theorem evi_rng2 (a b : E) : evi L (.rng2 a b) (s0 :: r) = bnd (ev L a (s0 :: r)) fun x => bnd (ev L b (s0 :: r)) fun y => lif ((asInt x).bind fun i => (asInt y).bind fun j => rngD i j) := by rw [evi]
@[simp] theorem evi_zip (a b : E) : evi L (.zip a b) (s0 :: r) = bnd (ev L a (s0 :: r)) fun x => bnd (ev L b (s0 :: r)) fun y => lif (zipDD x y) := by rw [evi]
@[simp] theorem evi_enum (a : E) : evi L (.enum a) (s0 :: r) = bnd (ev L a (s0 :: r)) fun x => lif (enumDD x) := by rw [evi]
/-! ### statements -/
@[simp] theorem evS_asg (i : Nat) (e : E) : evS L (.asg i e) (s0 :: r) = bndE (s0 :: r) (ev L e (s0 :: r)) fun d => nextS ((s0 :: r).set i (.v d)) := by rw [evS]
@[simp] theorem evS_own (i : Nat) (e : E) : evS L (.own i e) (s0 :: r) = bndE (s0 :: r) (bnd (ev L e (s0 :: r)) fun d => lif (slotOf true d)) fun s => nextS ((s0 :: r).set i s) := by rw [evS]
@[simp] theorem evS_par (ts : List (Bool × Nat)) (es : Es) : evS L (.par ts es) (s0 :: r) = bndE (s0 :: r) (bnd (evs L es (s0 :: r)) fun ds => lif (setPar (s0 :: r) ts ds)) nextS := by rw [evS]
@[simp] theorem evS_unp (is : List Nat) (e : E) : evS L (.unp is e) (s0 :: r) = bndE (s0 :: r) (bnd (ev L e (s0 :: r)) fun d => lif ((unpD d).bind fun ds => setAll (s0 :: r) is ds)) nextS := by rw [evS]
@[simp] theorem evS_app (i : Nat) (e : E) : evS L (.app i e) (s0 :: r) = bndE (s0 :: r) (bnd (lif (Env.get (s0 :: r) i).own) fun xs => bnd (ev L e (s0 :: r)) fun d => lif (if xs.length < LIM then some ((s0 :: r).set i (.o (xs ++ [d]))) else none)) nextS := by rw [evS]
@[simp] theorem evS_ext (i : Nat) (e : E) : evS L (.ext i e) (s0 :: r) = bndE (s0 :: r) (bnd (lif (Env.get (s0 :: r) i).own) fun xs => bnd (ev L e (s0 :: r)) fun d => lif ((extD d).bind fun ys => if xs.length + ys.length ≤ LIM then some ((s0 :: r).set i (.o (xs ++ ys))) else none)) nextS := by rw [evS]
@[simp] theorem evS_popA (j i : Nat) : evS L (.popA j i) (s0 :: r) = bndE (s0 :: r) (lif ((Env.get (s0 :: r) i).own.bind fun xs => xs.getLast?.map fun d => ((s0 :: r).set i (.o xs.dropLast)).set j (.v d))) nextS := by rw [evS]
@[simp] theorem evS_popS (j i : Nat) (k : Int) : evS L (.popS j i k) (s0 :: r) = bndE (s0 :: r) (lif ((Env.get (s0 :: r) i).own.bind fun xs => xs.getLast?.bind fun d => (subD d (.int k)).map fun e => ((s0 :: r).set i (.o xs.dropLast)).set j (.v e))) nextS := by rw [evS]
@[simp] theorem evS_setL (i : Nat) (k : Int) (e : E) : evS L (.setL i k e) (s0 :: r) = bndE (s0 :: r) (bnd (ev L e (s0 :: r)) fun d => lif ((Env.get (s0 :: r) i).own.bind fun xs => (ixN xs.length k).map fun j => (s0 :: r).set i (.o (xs.set j d)))) nextS := by rw [evS]
@[simp] theorem evS_frz (i : Nat) : evS L (.frz i) (s0 :: r) = bndE (s0 :: r) (lif ((Env.get (s0 :: r) i).own.map fun xs => (s0 :: r).set i (.v (.lst xs)))) nextS := by rw [evS]
@[simp] theorem evS_exp (e : E) : evS L (.exp e) (s0 :: r) = bndE (s0 :: r) (ev L e (s0 :: r)) fun _ => nextS (s0 :: r) := by rw [evS]
@[simp] theorem evS_ifs (c : E) (t f : Ss) : evS L (.ifs c t f) (s0 :: r) = bndE (s0 :: r) (bnd (ev L c (s0 :: r)) fun x => lif (tru x)) fun k => if k = true then evSs L t (s0 :: r) else evSs L f (s0 :: r) := by rw [evS]
@[simp] theorem evS_retE (e : E) : evS L (.retE e) (s0 :: r) = bndE (s0 :: r) (ev L e (s0 :: r)) retS := by rw [evS]
@[simp] theorem evS_retO (i : Nat) : evS L (.retO i) (s0 :: r) = bndE (s0 :: r) (lif (Env.get (s0 :: r) i).own) fun xs => retS (.lst xs) := by rw [evS]
@[simp] theorem evS_retN : evS L .retN (s0 :: r) = retS .non := by rw [evS]
@[simp] theorem evS_rse (c : Nat) : evS L (.rse c) (s0 :: r) = rseS c (s0 :: r) := by rw [evS]
@[simp] theorem evS_setF (i x : Nat) (e : E) : evS L (.setF i x e) (s0 :: r) = bndE (s0 :: r) (bnd (ev L e (s0 :: r)) fun d => bnd (lif (Env.get (s0 :: r) i).val) fun o => setA o x d) fun _ => nextS (s0 :: r) := by rw [evS]
@[simp] theorem evS_setFs (i : Nat) (xs : List Nat) (e : E) : evS L (.setFs i xs e) (s0 :: r) = bndE (s0 :: r) (bnd (ev L e (s0 :: r)) fun d => bnd (lif (tupD d)) fun ds => bnd (lif (Env.get (s0 :: r) i).val) fun o => setAs o xs ds) fun _ => nextS (s0 :: r) := by rw [evS]
@[simp] theorem evS_setK (a k e : E) : evS L (.setK a k e) (s0 :: r) = bndE (s0 :: r) (bnd (ev L e (s0 :: r)) fun d => bnd (ev L a (s0 :: r)) fun o => bnd (ev L k (s0 :: r)) fun y => bnd (lif (asInt y)) fun k => bnd (getK o) fun kvs => if kvs.length < LIM then wrC o (.dct (putD kvs k d)) else fail) fun _ => nextS (s0 :: r) := by rw [evS]
@[simp] theorem evS_setC2 (a i j d e : E) : evS L (.setC2 a i j d e) (s0 :: r) = bndE (s0 :: r) (bnd (ev L d (s0 :: r)) fun d => bnd (ev L e (s0 :: r)) fun e => bnd (ev L a (s0 :: r)) fun o => bnd (ev L i (s0 :: r)) fun y => bnd (lif (asInt y)) fun i => bnd (getL o) fun xs => bnd (lif (ixN xs.length i)) fun k => bnd (wrC o (.lst (xs.set k d))) fun _ =>
      bnd (ev L a (s0 :: r)) fun o => bnd (ev L j (s0 :: r)) fun y => bnd (lif (asInt y)) fun j => bnd (getL o) fun xs => bnd (lif (ixN xs.length j)) fun k => wrC o (.lst (xs.set k e))) fun _ => nextS (s0 :: r) := by rw [evS]
@[simp] theorem evSs_nil : evSs L .nil (s0 :: r) = nextS (s0 :: r) := by rw [evSs]
@[simp] theorem evSs_cons (s : S) (t : Ss) : evSs L (.cons s t) (s0 :: r) = seqS (evS L s (s0 :: r)) (evSs L t) := by rw [evSs]
end
/-- a for -/
theorem evS_fo (L : Lk) (t : Tgt) (it : It) (b : Ss) (r : Env) : evS L (.fo t it b) r = bndE r (evi L it r) fun xs => forS xs (fun r x => bndE r (lif (bindT r t x)) (evSs L b)) r := by rw [evS]
theorem evS_whl (L : Lk) (n : Nat) (c : E) (b : Ss) (r : Env) : evS L (.whl n c b) r = whileS n (ev L c) (evSs L b) r := by rw [evS]
theorem evS_trx (L : Lk) (b : Ss) (i : Nat) (s : Ss) (r : Env) : evS L (.trx b (some i) s) r = catchS (evSs L b) (fun c r' => seqS (evSs L s (r'.set i (.x c))) fun r => nextS (r.set i .none)) r := by rw [evS]
@[simp] theorem runF_eq (L : Lk) (n m : Nat) (b : Ss) (ds : List D) : runF L ⟨n, m, b⟩ ds = if ds.length = n then outM (evSs L b (ds.map .v ++ List.replicate (m - ds.length) .none)) else fail := Eq.trans rfl rfl
/-! ### turns -/
@[simp] theorem compM_nil {α β : Type} (step : α → M (Option β)) : compM [] step = ret [] := by rw [compM]
theorem compM_cons {α β : Type} (x : α) (xs : List α) (step : α → M (Option β)) : compM (x :: xs) step = bnd (step x) fun o => bnd (compM xs step) fun ys => ret (match o with | some y => y :: ys | none => ys) := by rw [compM] <;> rfl
@[simp] theorem compM_map {α β γ : Type} (f : γ → α) (step : α → M (Option β)) : ∀ xs : List γ, compM (xs.map f) step = compM xs fun x => step (f x)
  | [] => by simp
  | x :: xs => by rw [List.map_cons, compM_cons, compM_cons, compM_map f step xs]
@[simp] theorem compM_some {α β : Type} (f : α → β) : ∀ xs : List α, compM xs (fun x => ret (some (f x))) = ret (xs.map f)
  | [] => by simp
  | x :: xs => by rw [compM_cons, compM_some f xs]; rfl
@[simp] theorem compM_if {α β : Type} (c : α → Prop) [inst : ∀ a, Decidable (c a)] (f : α → β) : ∀ xs : List α, compM xs (fun x => if c x then ret (some (f x)) else ret none) = ret ((xs.filter fun x => decide (c x)).map f)
  | [] => by simp
  | x :: xs => by
    rw [compM_cons, compM_if c f xs]
    by_cases h : c x <;> simp [h]
@[simp] theorem compM_ifn {α β : Type} (c : α → Prop) [inst : ∀ a, Decidable (c a)] (f : α → β) : ∀ xs : List α, compM xs (fun x => if c x then ret none else ret (some (f x))) = ret ((xs.filter fun x => !decide (c x)).map f)
  | [] => by simp
  | x :: xs => by
    rw [compM_cons, compM_ifn c f xs]
    by_cases h : c x <;> simp [h]
theorem compM_congr {α β : Type} {f g : α → M (Option β)} : ∀ {xs : List α}, (∀ x ∈ xs, f x = g x) → compM xs f = compM xs g
  | [], _ => by simp
  | x :: xs, h => by
    rw [compM_cons, compM_cons, h x (by simp), compM_congr (xs := xs) fun y hy => h y (List.mem_cons_of_mem _ hy)]
theorem compM_ok {α β : Type} {f : α → M (Option β)} {g : α → β} {xs : List α} (h : ∀ x ∈ xs, f x = ret (some (g x))) : compM xs f = ret (xs.map g) := by rw [compM_congr h, compM_some]
@[simp] theorem forS_nil {α : Type} (step : Env → α → SM) (r : Env) : forS [] step r = nextS r := by rw [forS]
theorem forS_cons {α : Type} (x : α) (xs : List α) (step : Env → α → SM) (r : Env) : forS (x :: xs) step r = seqS (step r x) (forS xs step) := by rw [forS]
theorem forS_map {α γ : Type} (f : γ → α) (step : Env → α → SM) : ∀ (xs : List γ) (r : Env), forS (xs.map f) step r = forS xs (fun r x => step r (f x)) r
  | [], r => by simp
  | x :: xs, r => by
    rw [List.map_cons, forS_cons, forS_cons]
    congr 1
    funext r'
    exact forS_map f step xs r'
/-- a loop that always goes on -/
theorem forS_inv {α : Type} {step : Env → α → SM} (I : List α → Env → Prop) : ∀ {xs : List α} {pre : List α} {r : Env}, I pre r → (∀ p x s r, pre ++ xs = p ++ x :: s → I p r → ∃ r', step r x = nextS r' ∧ I (p ++ [x]) r') → ∃ r', forS xs step r = nextS r' ∧ I (pre ++ xs) r'
  | [], pre, r, h, _ => ⟨r, by simp, by simpa using h⟩
  | x :: xs, pre, r, h, hs => by
    obtain ⟨r1, e1, h1⟩ := hs pre x xs r rfl h
    obtain ⟨r2, e2, h2⟩ := forS_inv I (xs := xs) (pre := pre ++ [x]) h1 fun p y s r e => hs p y s r (by simpa using e)
    exact ⟨r2, by rw [forS_cons, e1, seqS_next, e2], by simpa using h2⟩
/-- .. with the items alone in view -/
theorem forS_keep {α : Type} {step : Env → α → SM} (I : Env → Prop) {xs : List α} {r : Env} (h : I r) (hs : ∀ x ∈ xs, ∀ r, I r → ∃ r', step r x = nextS r' ∧ I r') : ∃ r', forS xs step r = nextS r' ∧ I r' := by
  obtain ⟨r', h1, h2⟩ := forS_inv (fun _ r => I r) (xs := xs) (pre := []) h fun p x s r e hp => hs x (by rw [show xs = p ++ x :: s from e]; simp) r hp
  exact ⟨r', h1, h2⟩
/-- a fold: the state is told by a value -/
theorem forS_fold {α σ : Type} {step : Env → α → SM} (g : σ → α → σ) (I : σ → Env → Prop) : ∀ {xs : List α} {a : σ} {r : Env}, I a r → (∀ x ∈ xs, ∀ a r, I a r → ∃ r', step r x = nextS r' ∧ I (g a x) r') → ∃ r', forS xs step r = nextS r' ∧ I (xs.foldl g a) r'
  | [], a, r, h, _ => ⟨r, by simp, h⟩
  | x :: xs, a, r, h, hs => by
    obtain ⟨r1, e1, h1⟩ := hs x (by simp) a r h
    obtain ⟨r2, e2, h2⟩ := forS_fold g I (xs := xs) h1 fun y hy => hs y (List.mem_cons_of_mem _ hy)
    exact ⟨r2, by rw [forS_cons, e1, seqS_next, e2], h2⟩
/-- a loop that answers at an item -/
theorem forS_ret {α : Type} {step : Env → α → SM} (I : List α → Env → Prop) {xs post : List α} {x : α} {r : Env} {d : D} (h : I [] r) (hs : ∀ p y s r, xs = p ++ y :: s → I p r → ∃ r', step r y = nextS r' ∧ I (p ++ [y]) r') (hx : ∀ r, I xs r → step r x = retS d) : forS (xs ++ x :: post) step r = retS d := by
  have key : ∀ (ys : List α) (pre : List α) (r : Env), I pre r → pre ++ ys = xs → forS (ys ++ x :: post) step r = retS d := by
    intro ys
    induction ys with
    | nil =>
      intro pre r h e
      rw [List.nil_append, forS_cons, hx r (by rw [← e]; simpa using h)]
      rfl
    | cons y ys ih =>
      intro pre r h e
      obtain ⟨r1, e1, h1⟩ := hs pre y ys r e.symm h
      rw [List.cons_append, forS_cons, e1, seqS_next]
      exact ih _ _ h1 (by rw [← e]; simp)
  exact key xs [] r h rfl
/-- goes on, and so stands then -/
def Goes (m : SM) (I : Env → Prop) : Prop := ∃ r', m = nextS r' ∧ I r'
theorem goes {r : Env} {I : Env → Prop} (h : I r) : Goes (nextS r) I := ⟨r, rfl, h⟩
/-- for .. over a typed list -/
theorem fo_inv {L : Lk} {s : S} {t : Tgt} {it : It} {b : Ss} {α : Type} {xs : List α} {e : α → D} {r0 : Env} (hs : s = .fo t it b) (hi : evi L it r0 = ret (xs.map e)) (I : List α → Env → Prop) (h0 : I [] r0)
    (hb : ∀ p x q r, xs = p ++ x :: q → I p r → Goes (bndE r (lif (bindT r t (e x))) (evSs L b)) (I (p ++ [x]))) : ∃ r', evS L s r0 = nextS r' ∧ I xs r' := by
  obtain ⟨r', h1, h2⟩ := forS_inv (step := fun r x => bndE r (lif (bindT r t (e x))) (evSs L b)) I (xs := xs) (pre := []) h0 fun p x s r e h => hb p x s r e h
  exact ⟨r', by rw [hs, evS_fo, hi, bndE_ret, forS_map, h1], h2⟩
/-- .. what is wished stands apart, so that simp leaves it alone -/
theorem fo_invJ {L : Lk} {s : S} {t : Tgt} {it : It} {b : Ss} {α : Type} {xs : List α} {e : α → D} {r0 : Env} (hs : s = .fo t it b) (hi : evi L it r0 = ret (xs.map e)) (I : List α → Env → Prop) (h0 : I [] r0)
    (hb : ∀ p x q r, xs = p ++ x :: q → I p r → ∀ J : Env → Prop, (∀ r', I (p ++ [x]) r' → J r') → Goes (bndE r (lif (bindT r t (e x))) (evSs L b)) J) : ∃ r', evS L s r0 = nextS r' ∧ I xs r' :=
  fo_inv hs hi I h0 fun p x q r e h => hb p x q r e h _ fun _ z => z
theorem fo_keepJ {L : Lk} {s : S} {t : Tgt} {it : It} {b : Ss} {α : Type} {xs : List α} {e : α → D} {r0 : Env} (hs : s = .fo t it b) (hi : evi L it r0 = ret (xs.map e)) (I : Env → Prop) (h0 : I r0)
    (hb : ∀ x ∈ xs, ∀ r, I r → ∀ J : Env → Prop, (∀ r', I r' → J r') → Goes (bndE r (lif (bindT r t (e x))) (evSs L b)) J) : ∃ r', evS L s r0 = nextS r' ∧ I r' :=
  fo_inv hs hi (fun _ r => I r) h0 fun p x q r e h => hb x (by rw [e]; simp) r h _ fun _ z => z
theorem fo_keep {L : Lk} {s : S} {t : Tgt} {it : It} {b : Ss} {α : Type} {xs : List α} {e : α → D} {r0 : Env} (hs : s = .fo t it b) (hi : evi L it r0 = ret (xs.map e)) (I : Env → Prop) (h0 : I r0)
    (hb : ∀ x ∈ xs, ∀ r, I r → Goes (bndE r (lif (bindT r t (e x))) (evSs L b)) I) : ∃ r', evS L s r0 = nextS r' ∧ I r' :=
  fo_inv hs hi (fun _ r => I r) h0 fun p x q r e h => hb x (by rw [e]; simp) r h
theorem fo_fold {L : Lk} {s : S} {t : Tgt} {it : It} {b : Ss} {α σ : Type} {xs : List α} {e : α → D} {r0 : Env} (hs : s = .fo t it b) (hi : evi L it r0 = ret (xs.map e)) (g : σ → α → σ) (a : σ) (I : σ → Env → Prop) (h0 : I a r0)
    (hb : ∀ x ∈ xs, ∀ a r, I a r → Goes (bndE r (lif (bindT r t (e x))) (evSs L b)) (I (g a x))) : ∃ r', evS L s r0 = nextS r' ∧ I (xs.foldl g a) r' := by
  obtain ⟨r', h1, h2⟩ := fo_inv hs hi (fun p r => I (p.foldl g a) r) h0 fun p x q r e h => by
    rw [List.foldl_append]
    exact hb x (by rw [e]; simp) _ r h
  exact ⟨r', h1, h2⟩
theorem catch_nx {mb : Env → SM} {kk : Nat → Env → SM} {r r' : Env} (h : mb r = nextS r') : catchS mb kk r = nextS r' := by
  unfold catchS; rw [h]; rfl
theorem catch_rt {mb : Env → SM} {kk : Nat → Env → SM} {r : Env} {d : D} (h : mb r = retS d) : catchS mb kk r = retS d := by
  unfold catchS; rw [h]; rfl
theorem catch_ex {mb : Env → SM} {kk : Nat → Env → SM} {r r' : Env} {c : Nat} (h : mb r = rseS c r') : catchS mb kk r = calmS (kk c r') := by
  unfold catchS; rw [h]; rfl
theorem calm_ret (d : D) : calmS (retS d) = retS d := rfl
end Py
end
section
/-! set(xs) of a list of ints, sorted of it -/
namespace PyS
open PySem PySem.Spec PyProof.Rows L2
section
variable {P : Program} {w : World} {A : Around} {E : Value → Shared → Prop} {t : Shared}
abbrev nso (w : World) : Obj := { cls := .type "set", dict := none, data := .set #[] 0 (.fresh 0 0 (!w.params.followText "set-order")) }
set_option maxRecDepth 100000 in
set_option maxHeartbeats 3200000 in
theorem set_lstI {p : Addr} {us : Array Value} (js : List Int) {Q : Value → Shared → Prop} (na : A.handled = none) (pl : t.heap.IsList p us) (ui : IntsAre us.toList js) (few : js.length + 1 < scanBound)
    (fin : ∀ (g : Heap) (m c : Nat), SetR w g t.heap.objs.size (fun j => decide (j ∈ js)) c → c ≤ js.length → (∀ b o, t.heap.get? b = some o → g.get? b = some o) → Q (.ref t.heap.objs.size) { t with heap := g, toks := m }) :
    wpAny (model P w) A (call (.type "set") [.ref p]) Q E t := by
  have usz : us.size = js.length := by
    have z := IntsAre.length ui
    rwa [Array.length_toList] at z
  obtain ⟨c0, tl0, hmro0⟩ := F.called_set.mro
  have made0 := F.called_set.made
  have sub0 := F.called_set.sub
  refine wpAny_call (codeAny_of_tree (?_))
  show wpAny _ _ (callAny (.type "set") (_)) _ _ _
  refine wpAny_pure (And.intro (Code.quiet_builtin _ (by decide +kernel)) (codeAny_builtin F.entry_type_call ?_))
  rw [Around.under_plain (weight_type_call_type "set" [.ref p] []) (by rfl)]
  have nt0 := F.called_set.notType
  have cc0 := F.called_set.canCreate
  have tc0 := F.typeCall_set_1 (.ref p)
  repeat (any_goals (first | wp_step | assumption))
  refine codeAny_mono (code_set_led1 (.ref p) (E := E) (Q₁ := fun ob t₁ => ob = .ref t.heap.objs.size ∧ t₁ = { t with heap := t.heap.push (nso w) }) ⟨rfl, rfl⟩) fun x t₁ hx => ?_
  cases x with
  | error _ => exact hx
  | ok fl0 =>
    cases fl0 with
    | ret ob =>
      obtain ⟨rfl, rfl⟩ := hx
      have setAt : (t.heap.push (nso w)).get? t.heap.objs.size = some (nso w) := Heap.get?_push_size _ (by rfl)
      have tyAt : Shared.TypeIs { t with heap := t.heap.push (nso w) } (.ref t.heap.objs.size) "set" := ⟨_, setAt, rfl⟩
      have lk0 := F.called_set.init.lookup
      have bd0 := F.called_set.init.bind (.ref t.heap.objs.size)
      repeat (any_goals (first | wp_step | assumption))
      refine codeAny_mono (codeAny_call_builtin (R := wants (fun y t₂ => y = .none ∧ ∃ g m c, t₂ = { t with heap := g, toks := m } ∧ SetR w g t.heap.objs.size (fun j => decide (j ∈ js)) c ∧ c ≤ js.length ∧ (∀ b o, t.heap.get? b = some o → g.get? b = some o)) E)
          F.called_set.init.plain F.entry_set_init (check_set_init_1 tyAt (?_))) fun x₂ t₂ hx₂ => ?_
      · obtain ⟨ob0, at0, cl0, n0, dt0⟩ := pl
        obtain ⟨k0, dd0, da0, sl0⟩ := ob0
        simp only at cl0 dt0
        subst cl0 dt0
        have at1 : (t.heap.push (nso w)).get? p = some { cls := .type "list", dict := dd0, data := .seq us n0, slots := sl0 } := Heap.get?_push_of_some _ at0
        have sls0 := F.sub_list_set
        have slf0 := F.sub_list_frozenset
        have nd0 : (Value.type "list" == Value.type "dict") = false := by decide
        have li1 : (t.heap.push (nso w)).IsList p us := ⟨_, at1, rfl, n0, rfl⟩
        unfold Builtin.«set.__init__» noKeywords Builtin.Frozenset.updateFrom
        generalize pyIterE : pyIter = PY
        wp_walk
        subst pyIterE
        refine wpAny_pyIter_list li1 (?_)
        refine wpAny_bind (wpAny_runValue (?_))
        have lt0 : p < t.heap.objs.size := Heap.lt_size at0
        have na3 : A.in1.in1.in1.handled = none := by simp [na]
        have sz1 : (t.heap.push (nso w)).objs.size = t.heap.objs.size + 1 := Heap.size_push (h := t.heap) (o := nso w)
        have neI : p ≠ (t.heap.push (nso w)).objs.size := by rw [sz1]; exact Nat.ne_of_lt (Nat.lt_succ_of_lt lt0)
        have out0 : t.heap.objs.size ∉ [(t.heap.push (nso w)).objs.size, p] := by
          rw [sz1]
          intro z
          rcases List.mem_cons.mp z with z | z
          · exact Nat.ne_of_lt (Nat.lt_succ_self _) z
          · exact Nat.ne_of_gt lt0 (List.mem_singleton.mp z)
        have val0 : ∀ (i : Nat) (v : Value), us[i]? = some v → ∃ k tk, js[i]? = some k ∧ v = .int k tk := fun i v hv => by
          have lti : i < js.length := by rw [← usz]; exact (Array.getElem?_eq_some_iff.mp hv).1
          obtain ⟨tk, e⟩ := PyProof.Rows.IntsAre.int_at ui i v (by rw [Array.getElem?_toList, hv])
          refine ⟨js[i], tk, List.getElem?_eq_getElem lti, ?_⟩
          rw [e, List.getD_eq_getElem?_getD, List.getElem?_eq_getElem lti]
          rfl
        refine set_update_ints ((Walks.list na3 _ p neI us).toS) t.heap.objs.size out0 js usz few val0 (us.size - 0) 0 _ (by omega) (Nat.zero_le _) ⟨⟨_, Heap.get?_push_size _ rfl, rfl, rfl⟩, (li1.push _)⟩ ?s0 ?s1
        case s0 =>
          exact ⟨0, Nat.le_refl 0, setR_new_at (Heap.get?_push_of_some _ setAt)⟩
        case s1 =>
          intro t' c' mv le' R'
          obtain ⟨g', gn', dr', tk', os'⟩ := t'
          have q1 : gn' = t.gens := mv.gens
          have q2 : dr' = t.drawn := mv.drawn
          have q3 : os' = t.os := mv.os
          subst q1 q2 q3
          show wpAny _ _ _ _ _ _
          refine wpAny_pure (?_)
          show wpAny _ _ (ret Value.none) _ _ _
          rw [usz] at le'
          refine wpAny_pure ⟨rfl, g', tk', c', rfl, R', le', fun b o e => ?_⟩
          have b0 : b < t.heap.objs.size := Heap.lt_size e
          refine mv.heap b o (fun z => ?_) (Heap.get?_push_of_some _ (Heap.get?_push_of_some _ e))
          rw [sz1] at z
          rcases List.mem_cons.mp z with z | z
          · exact Nat.ne_of_lt b0 z
          · exact Nat.ne_of_lt (Nat.lt_succ_of_lt b0) (List.mem_singleton.mp z)
      · cases x₂ with
        | error _ => exact hx₂
        | ok fl₂ =>
          cases fl₂ with
          | ret y =>
            obtain ⟨rfl, g, m, c', rfl, R', le', keep'⟩ := hx₂
            repeat (any_goals (first | wp_step | assumption))
            exact fin _ _ _ R' le' keep'
          | _ => exact hx₂.elim
    | _ => exact hx.elim
end
end PyS
end
section
/-! sorted(t) of a tuple; kinds of items -/
namespace PyS
open PySem PySem.Spec PyProof.Rows L2
section
variable {P : Program} {w : World} {A : Around} {E : Value → Shared → Prop} {t : Shared}
/-- a list or a tuple -/
def IsLT (h : Heap) (p : Addr) (us : List Value) : Prop := ∃ o n, h.get? p = some o ∧ (o.cls = .type "list" ∨ o.cls = .type "tuple") ∧ o.data = .seq us.toArray n
theorem collect_lt {p : Addr} {us : List Value} {Q : List Value → Shared → Prop} (hp : IsLT t.heap p us) (few : us.length ≤ sizeLine)
    (fin : Q us { t with heap := (t.heap.push (seqObj "list" #[] 0)).update t.heap.objs.size (Obj.mapSeq (· ++ us.toArray)) }) :
    wpAny (model P w) A (collect (.ref p)) Q E t := by
  obtain ⟨ob, n0, at0, cl0, dt0⟩ := hp
  unfold collect
  refine wpAny_bind (wpAny_runValue (codeAny_builtin entry_proto_collect' (?_)))
  show wpAny _ _ (do again (.builtin "list.__iadd__" ⟨[← newList [], (.ref p)], []⟩)) _ _ t
  refine wpAny_bind (wpAny_newList (wpAny_pure (And.intro (Code.quiet_builtin _ (by decide +kernel)) (codeAny_builtin entry_list_iadd' ?_))))
  show wpAny _ _ (Builtin.List.listExtendWith (.ref t.heap.objs.size) (.ref p) (.ref t.heap.objs.size)) _ _ { t with heap := t.heap.push (seqObj "list" #[] 0) }
  unfold Builtin.List.listExtendWith
  have at1 : (t.heap.push (seqObj "list" #[] 0)).get? p = some ob := Heap.get?_push_of_some _ at0
  have new0 : (t.heap.push (seqObj "list" #[] 0)).get? t.heap.objs.size = some (seqObj "list" #[] 0) := Heap.get?_push_size _ (by rfl)
  obtain ⟨T, hT, hc⟩ : ∃ T, ob.cls = .type T ∧ (T = "list" ∨ T = "tuple") := by
    rcases cl0 with h | h
    · exact ⟨_, h, .inl rfl⟩
    · exact ⟨_, h, .inr rfl⟩
  refine wpAny_bind (wpAny_typeOf (T := T) ⟨ob, at1, hT⟩ ?_)
  rw [if_pos (by rw [Bool.or_eq_true, Bool.or_eq_true]; rcases hc with rfl | rfl; exact .inl (.inr (by decide)); exact .inr (by decide))]
  refine wpAny_bind (listItems_at at1 dt0 (?_))
  refine wpAny_bind (listItems_at (xs := #[]) (n := 0) new0 (by rfl) ?_)
  rw [if_neg (by simp)]
  refine wpAny_bind (listUpdate_at (xs := #[]) (n := 0) new0 (by rfl) ?_ (Nat.zero_le _) (by show (#[] ++ us.toArray).size ≤ sizeLine + 1; simp; omega))
  refine wpAny_pure (?_)
  show wpAny (model P w) A (do
      let o ← load t.heap.objs.size
      match o.data with
      | .seq xs _ => pure xs.toList
      | _ => (unsupported "internal:collect")) Q E { t with heap := (t.heap.push (seqObj "list" #[] 0)).update t.heap.objs.size (Obj.mapSeq (· ++ us.toArray)) }
  refine wpAny_bind (wpAny_load (get?_update_seq new0 _) (?_))
  show wpAny _ _ (pure ((#[] : Array Value) ++ us.toArray).toList) _ _ _
  rw [show ((#[] : Array Value) ++ us.toArray).toList = us from by simp]
  exact wpAny_pure fin
/-- sorted of a list or a tuple, under a strict weak order -/
theorem sorted_lt {p : Addr} {us : List Value} {ltv : Value → Value → Bool} {Q : Value → Shared → Prop} (O : SrtO.Swo ltv) (hp : IsLT t.heap p us) (few : us.length ≤ sizeLine)
    (srt : 2 ≤ us.length → ∀ (g : Heap) (a : Addr), g.get? a = some (seqObj "list" us.toArray 0) → (∀ b o, t.heap.get? b = some o → b ≠ a ∧ g.get? b = some o) → SrtO.SortableO P w A.in1.in1 { t with heap := g } a us ltv)
    (fin : ∀ out : List Value, SrtO.Srtd ltv out → SrtO.Stb ltv out us → Q (.ref (t.heap.objs.size + 1)) { t with heap := sortedAll t.heap us out.toArray }) :
    wpAny (model P w) A (call (.builtin "sorted") [.ref p]) Q E t := by
  refine Calls.call_function_entry kind_sorted plain_sorted entry_sorted (args_sorted1 (_)) ?_
  unfold Builtin.«sorted»
  refine wpAny_bind (m := checkCount "sorted" 1 1 (_)) (wpAny_pure ?_)
  refine wpAny_bind (collect_lt hp few ?_)
  refine wpAny_bind (wpAny_newList ?_ few)
  generalize gE : ((t.heap.push (seqObj "list" #[] 0)).update t.heap.objs.size (Obj.mapSeq (· ++ us.toArray))) = g0
  have sz : g0.objs.size = t.heap.objs.size + 1 := by rw [← gE, Heap.size_update, size_push']
  have newAt : (g0.push (seqObj "list" us.toArray 0)).get? (t.heap.objs.size + 1) = some (seqObj "list" us.toArray 0) := by
    rw [← sz]
    exact Heap.get?_push_size _ (by rfl)
  have kp : ∀ b o, t.heap.get? b = some o → b ≠ t.heap.objs.size + 1 ∧ (g0.push (seqObj "list" us.toArray 0)).get? b = some o := fun b o q => by
    have lt0 : b < t.heap.objs.size := Heap.lt_size q
    refine ⟨Nat.ne_of_lt (Nat.lt_succ_of_lt lt0), Heap.get?_push_of_some _ ?_⟩
    rw [← gE, Heap.get?_update_ne _ _ _ _ (Nat.ne_of_lt lt0)]
    exact Heap.get?_push_of_some _ q
  show wpAny _ _ _ _ _ { t with heap := g0.push (seqObj "list" us.toArray 0) }
  rw [sz]
  refine wpAny_bind (wpAny_holding (wpAny_call_entry slot_list_sort ⟨_, newAt, rfl⟩ entry_list_sort (SrtO.list_sort_ord O newAt few (fun h2 => srt h2 _ _ newAt kp) fun out h1 h2 => ⟨_, rfl, ?_⟩) (args_list_sort (_))))
  refine wpAny_pure ⟨_, rfl, ?_⟩
  have z := fin out h1 h2
  unfold sortedAll at z
  rw [gE] at z
  exact z
/-! kinds -/
theorem cmp_tups {sh : Nat → Bool} {us : List Value} {ltv : Value → Value → Bool} (key : ∀ u ∈ us, ∃ k, tupKey t.heap sh u = some k) (hl : ∀ u v, ltv u v = lexLt itemOrd ((tupKey t.heap sh u).getD []) ((tupKey t.heap sh v).getD [])) : SrtO.Cmp P w A t (tuples' true) (fun q => q.1 ∈ us) (SrtO.lt2 ltv) := by
  intro x y hx hy
  obtain ⟨k1, e1⟩ := key _ hx
  obtain ⟨k2, e2⟩ := key _ hy
  refine tup_ltAt true A _ x.1 y.1 k1 k2 e1 e2 ⟨rfl, ?_⟩
  show lexLt itemOrd k1 k2 = ltv x.1 y.1
  rw [hl, e1, e2]
  rfl
theorem cmp_strs {us : List Value} {ltv : Value → Value → Bool} (str : ∀ u ∈ us, ∃ x tk, u = .str x tk) (hl : ∀ x tk y tk', ltv (.str x tk) (.str y tk') = decide (x.cps.toList < y.cps.toList)) : SrtO.Cmp P w A t oneType' (fun q => q.1 ∈ us) (SrtO.lt2 ltv) := by
  intro x y hx hy
  obtain ⟨a, ta, e1⟩ := str _ hx
  obtain ⟨b, tb, e2⟩ := str _ hy
  rw [e1, e2]
  refine PySem.W.kas_lt_str ⟨rfl, ?_⟩
  show _ = ltv x.1 y.1
  rw [e1, e2, hl]
end
end PyS
end
section
namespace PyS
open PySem PySem.Spec PyProof.Rows L2

/-- where the defs and the own classes stand, what the attributes are called -/
structure Ad where
  f : Nat → Option Addr
  c : Nat → Option Addr
  n : Nat → Str
  inj : ∀ i j, n i = n j → i = j
def WrL (K : PySem.W.Frag) (a : Addr) (xs : List V) : Prop :=
  ∃ (o : Obj) (its : Array Value) (n : Nat), K.lookup a = some o ∧ o.cls = .type "list" ∧ o.dict = none ∧ o.data = .seq its n ∧ its.size ≤ sizeLine ∧ Vals xs its.toList

section
variable (K : PySem.W.Frag) (fA : Ad) (H : Hp) (Z : Addr → Prop) (η : List Addr)
mutual
/-- a value and the data it is: lists stand where nothing is written any more (Z) -/
inductive Rep : V → Py.D → Prop
  | non : Rep .non .non
  | bl (b : Bool) : Rep (.bl b) (.bl b)
  | int (i : Int) : Rep (.int i) (.int i)
  | str (cs : List Nat) : (cs.all fun c => decide (c < 1114112)) = true → Rep (.str ⟨cs.toArray⟩) (.str cs)
  | tup {a : Addr} {vs : List V} {ds : List Py.D} : H a = some (.tup vs) → RepL vs ds → Rep (.ref a) (.tup ds)
  | lst {a : Addr} {vs : List V} {ds : List Py.D} : Z a → H a = some (.lst vs) → RepL vs ds → Rep (.ref a) (.lst ds)
  | scr {a : Addr} {vs : List V} {ds : List Py.D} : (Z a ∧ Rd H a (.lst vs)) ∨ WrL K a vs → RepL vs ds → Rep (.ref a) (.scr ds)
  | fn {a : Addr} {f : Nat} : fA.f f = some a → Rep (.ref a) (.fn f)
  | loc {a : Addr} {n : Nat} : η[n]? = some a → Rep (.ref a) (.loc n)
inductive RepL : List V → List Py.D → Prop
  | nil : RepL [] []
  | cons {v : V} {vs : List V} {d : Py.D} {ds : List Py.D} : Rep v d → RepL vs ds → RepL (v :: vs) (d :: ds)
end
end

section
variable {K : PySem.W.Frag} {fA : Ad} {H H' : Hp} {Z Z' : Addr → Prop} {η η' : List Addr}
mutual
theorem Rep.mono (h1 : ∀ b o, H b = some o → (Z b ∨ ∃ xs, o = .tup xs) → H' b = some o) (h2 : ∀ b, Z b → Z' b) (h3 : ∃ l, η' = η ++ l) {v : V} : ∀ {d : Py.D}, Rep K fA H Z η v d → Rep K fA H' Z' η' v d
  | _, .non => .non
  | _, .bl b => .bl b
  | _, .int i => .int i
  | _, .str cs h => .str cs h
  | _, .tup h r => .tup (h1 _ _ h (.inr ⟨_, rfl⟩)) (RepL.mono h1 h2 h3 r)
  | _, .lst z h r => .lst (h2 _ z) (h1 _ _ h (.inl z)) (RepL.mono h1 h2 h3 r)
  | _, .scr h r => .scr (by
      rcases h with ⟨z, h | ⟨o, h⟩⟩ | h
      · exact .inl ⟨h2 _ z, .inl (h1 _ _ h (.inl z))⟩
      · exact .inl ⟨h2 _ z, .inr ⟨o, h1 _ _ h (.inl z)⟩⟩
      · exact .inr h) (RepL.mono h1 h2 h3 r)
  | _, .fn h => .fn h
  | _, .loc h => .loc (by
      obtain ⟨l, rfl⟩ := h3
      rw [List.getElem?_append_left]
      · exact h
      · exact (List.getElem?_eq_some_iff.mp h).1)
theorem RepL.mono (h1 : ∀ b o, H b = some o → (Z b ∨ ∃ xs, o = .tup xs) → H' b = some o) (h2 : ∀ b, Z b → Z' b) (h3 : ∃ l, η' = η ++ l) : ∀ {vs : List V} {ds : List Py.D}, RepL K fA H Z η vs ds → RepL K fA H' Z' η' vs ds
  | _, _, .nil => .nil
  | _, _, .cons r t => .cons (Rep.mono h1 h2 h3 r) (RepL.mono h1 h2 h3 t)
end
theorem RepL.length : ∀ {vs : List V} {ds : List Py.D}, RepL K fA H Z η vs ds → vs.length = ds.length
  | _, _, .nil => rfl
  | _, _, .cons _ t => by rw [List.length_cons, List.length_cons, t.length]
theorem RepL.append : ∀ {vs us : List V} {ds es : List Py.D}, RepL K fA H Z η vs ds → RepL K fA H Z η us es → RepL K fA H Z η (vs ++ us) (ds ++ es)
  | _, _, _, _, .nil, s => s
  | _, _, _, _, .cons r t, s => .cons r (t.append s)
theorem RepL.get : ∀ {vs : List V} {ds : List Py.D} {i : Nat} {d : Py.D}, RepL K fA H Z η vs ds → ds[i]? = some d → ∃ v, vs[i]? = some v ∧ Rep K fA H Z η v d
  | _, _, _, _, .nil, e => by simp at e
  | _, _, 0, _, .cons r _, e => by simp at e; subst e; exact ⟨_, rfl, r⟩
  | _, _, i + 1, d, .cons _ t, e => by
    obtain ⟨v, h1, h2⟩ := RepL.get (i := i) (d := d) t (by simpa using e)
    exact ⟨v, by simpa using h1, h2⟩
theorem RepL.getV : ∀ {vs : List V} {ds : List Py.D} {i : Nat} {v : V}, RepL K fA H Z η vs ds → vs[i]? = some v → ∃ d, ds[i]? = some d ∧ Rep K fA H Z η v d
  | _, _, _, _, .nil, e => by simp at e
  | _, _, 0, _, .cons r _, e => by simp at e; subst e; exact ⟨_, rfl, r⟩
  | _, _, i + 1, d, .cons _ t, e => by
    obtain ⟨v, h1, h2⟩ := RepL.getV (i := i) t (by simpa using e)
    exact ⟨v, by simpa using h1, h2⟩
theorem RepL.take : ∀ {vs : List V} {ds : List Py.D} (n : Nat), RepL K fA H Z η vs ds → RepL K fA H Z η (vs.take n) (ds.take n)
  | _, _, 0, _ => .nil
  | _, _, _ + 1, .nil => .nil
  | _, _, n + 1, .cons r t => .cons r (t.take n)
theorem RepL.drop : ∀ {vs : List V} {ds : List Py.D} (n : Nat), RepL K fA H Z η vs ds → RepL K fA H Z η (vs.drop n) (ds.drop n)
  | _, _, 0, r => r
  | _, _, _ + 1, .nil => .nil
  | _, _, n + 1, .cons _ t => t.drop n
theorem RepL.set {v : V} {d : Py.D} (q : Rep K fA H Z η v d) : ∀ {vs : List V} {ds : List Py.D} (i : Nat), RepL K fA H Z η vs ds → RepL K fA H Z η (vs.set i v) (ds.set i d)
  | _, _, _, .nil => .nil
  | _, _, 0, .cons _ t => .cons q t
  | _, _, i + 1, .cons r t => .cons r (t.set q i)
theorem RepL.one {v : V} {d : Py.D} (q : Rep K fA H Z η v d) : RepL K fA H Z η [v] [d] := .cons q .nil
theorem RepL.reverse : ∀ {vs : List V} {ds : List Py.D}, RepL K fA H Z η vs ds → RepL K fA H Z η vs.reverse ds.reverse
  | _, _, .nil => .nil
  | _, _, .cons r t => by
    rw [List.reverse_cons, List.reverse_cons]
    exact t.reverse.append (.one r)
theorem RepL.flat : ∀ (n : Nat) {vs : List V} {ds : List Py.D}, RepL K fA H Z η vs ds → RepL K fA H Z η (List.replicate n vs).flatten (List.replicate n ds).flatten
  | 0, _, _, _ => .nil
  | n + 1, _, _, r => by
    rw [List.replicate_succ, List.flatten_cons, List.replicate_succ, List.flatten_cons]
    exact r.append (RepL.flat n r)
end

/-- what one may read off a value: as Rep, but the list itself may still be written by its owner -/
inductive View (K : PySem.W.Frag) (fA : Ad) (H : Hp) (Z : Addr → Prop) (η : List Addr) : V → Py.D → Prop
  | of {v : V} {d : Py.D} : Rep K fA H Z η v d → View K fA H Z η v d
  | ls {a : Addr} {vs : List V} {ds : List Py.D} : H a = some (.lst vs) → RepL K fA H Z η vs ds → View K fA H Z η (.ref a) (.lst ds)
section
variable {K : PySem.W.Frag} {fA : Ad} {H H' : Hp} {Z Z' : Addr → Prop} {η η' : List Addr} {v : V}
theorem View.non (h : View K fA H Z η v .non) : v = .non := by
  cases h with
  | of h => cases h; rfl
theorem View.bl {b : Bool} (h : View K fA H Z η v (.bl b)) : v = .bl b := by
  cases h with
  | of h => cases h; rfl
theorem View.int {i : Int} (h : View K fA H Z η v (.int i)) : v = .int i := by
  cases h with
  | of h => cases h; rfl
theorem View.str {cs : List Nat} (h : View K fA H Z η v (.str cs)) : v = .str ⟨cs.toArray⟩ ∧ (cs.all fun c => decide (c < 1114112)) = true := by
  cases h with
  | of h => cases h; exact ⟨rfl, by assumption⟩
theorem View.tup {ds : List Py.D} (h : View K fA H Z η v (.tup ds)) : ∃ a vs, v = .ref a ∧ H a = some (.tup vs) ∧ RepL K fA H Z η vs ds := by
  cases h with
  | of h => cases h; exact ⟨_, _, rfl, by assumption, by assumption⟩
theorem View.lst {ds : List Py.D} (h : View K fA H Z η v (.lst ds)) : ∃ a vs, v = .ref a ∧ H a = some (.lst vs) ∧ RepL K fA H Z η vs ds := by
  cases h with
  | of h => cases h with
    | lst z h r => exact ⟨_, _, rfl, h, r⟩
  | ls h r => exact ⟨_, _, rfl, h, r⟩
theorem View.scr {ds : List Py.D} (h : View K fA H Z η v (.scr ds)) : ∃ a vs, v = .ref a ∧ SqL K H a vs ∧ RepL K fA H Z η vs ds := by
  cases h with
  | of h => cases h with
    | scr h r =>
      rcases h with ⟨_, h⟩ | h
      · exact ⟨_, _, rfl, .inl h, r⟩
      · exact ⟨_, _, rfl, .inr h, r⟩
end

/-- an object of the store -/
def CellR (K : PySem.W.Frag) (fA : Ad) (H : Hp) (Z : Addr → Prop) (η : List Addr) : HO → Py.Cell → Prop
  | .lst vs, .lst xs => RepL K fA H Z η vs xs
  | .ins C _ vs, .ins c fs => fA.c c = some C ∧ vs.map (·.1) = fs.map (fun p => fA.n p.1) ∧ RepL K fA H Z η (vs.map (·.2)) (fs.map (·.2))
  | .dK vs, .dct kvs => vs.map (·.1) = kvs.map (fun p => Sum.inl p.1) ∧ RepL K fA H Z η (vs.map (·.2)) (kvs.map (·.2))
  | _, _ => False
theorem CellR.map {K : PySem.W.Frag} {fA : Ad} {H H' : Hp} {Z Z' : Addr → Prop} {η η' : List Addr} (f : ∀ {vs ds}, RepL K fA H Z η vs ds → RepL K fA H' Z' η' vs ds) {o : HO} {c : Py.Cell} (h : CellR K fA H Z η o c) : CellR K fA H' Z' η' o c := by
  unfold CellR at h ⊢
  split at h
  · exact f h
  · exact ⟨h.1, h.2.1, f h.2.2⟩
  · exact ⟨h.1, f h.2⟩
  · exact h.elim
theorem CellR.notup {K : PySem.W.Frag} {fA : Ad} {H : Hp} {Z : Addr → Prop} {η : List Addr} {o : HO} {c : Py.Cell} (h : CellR K fA H Z η o c) : ∀ xs, o ≠ .tup xs := by
  rintro xs rfl
  exact h
/-- what a stretch of the run leaves: all but the cells (η) as it was, new things in new places -/
structure Step (H : Hp) (Z : Addr → Prop) (η : List Addr) (H' : Hp) (Z' : Addr → Prop) (η' : List Addr) : Prop where
  keep : ∀ b o, H b = some o → b ∉ η → H' b = some o
  tups : ∀ b xs, H b = some (.tup xs) → H' b = some (.tup xs)
  there : ∀ b, H b ≠ none → H' b ≠ none
  zz : ∀ b, Z b → Z' b
  nz : ∀ b, Z' b → Z b ∨ H b = none
  eta : ∃ l, η' = η ++ l ∧ ∀ a ∈ l, H a = none
/-- the cells' objects, what is never written again -/
structure WInv (K : PySem.W.Frag) (fA : Ad) (H : Hp) (Z : Addr → Prop) (η : List Addr) (ω : Py.Store) : Prop where
  zη : ∀ b, Z b → b ∉ η
  zd : ∀ b, Z b → H b ≠ none
  ηd : ∀ b, b ∈ η → H b ≠ none
  nd : η.Nodup
  len : η.length = ω.length
  cell : ∀ (n : Nat) c, ω[n]? = some c → ∃ a o, η[n]? = some a ∧ H a = some o ∧ CellR K fA H Z η o c
theorem Step.refl {H : Hp} {Z : Addr → Prop} {η : List Addr} : Step H Z η H Z η :=
  ⟨fun _ _ h _ => h, fun _ _ h => h, fun _ h => h, fun _ h => h, fun _ h => .inl h, [], by simp, fun _ h => absurd h (by simp)⟩
theorem Step.trans {H H1 H2 : Hp} {Z Z1 Z2 : Addr → Prop} {η η1 η2 : List Addr} (a : Step H Z η H1 Z1 η1) (b : Step H1 Z1 η1 H2 Z2 η2) : Step H Z η H2 Z2 η2 := by
  have nn : ∀ b, H1 b = none → H b = none := fun b h => by
    cases q : H b with
    | none => rfl
    | some o => exact absurd h (a.there b (by rw [q]; simp))
  refine ⟨fun c o h hn => b.keep c o (a.keep c o h hn) fun hm => ?_, fun c xs h => b.tups c xs (a.tups c xs h), fun c h => b.there c (a.there c h), fun c h => b.zz c (a.zz c h), fun c h => ?_, ?_⟩
  · obtain ⟨l, rfl, hl⟩ := a.eta
    rcases List.mem_append.mp hm with z | z
    · exact hn z
    · rw [hl c z] at h; cases h
  · rcases b.nz c h with z | z
    · exact a.nz c z
    · exact .inr (nn c z)
  · obtain ⟨l, rfl, hl⟩ := a.eta
    obtain ⟨l', rfl, hl'⟩ := b.eta
    refine ⟨l ++ l', by simp, fun c hc => ?_⟩
    rcases List.mem_append.mp hc with z | z
    · exact hl c z
    · exact nn c (hl' c z)
section
variable {K : PySem.W.Frag} {fA : Ad} {H H' : Hp} {Z Z' : Addr → Prop} {η η' : List Addr} {ω ω' : Py.Store} {v : V} {d : Py.D} {vs : List V} {ds : List Py.D}
theorem Step.rep (s : Step H Z η H' Z' η') (w : WInv K fA H Z η ω) (r : Rep K fA H Z η v d) : Rep K fA H' Z' η' v d :=
  r.mono (fun b o h hz => by
    rcases hz with z | ⟨xs, rfl⟩
    · exact s.keep b o h (w.zη b z)
    · exact s.tups b xs h) s.zz (by obtain ⟨l, e, _⟩ := s.eta; exact ⟨l, e⟩)
theorem Step.repL (s : Step H Z η H' Z' η') (w : WInv K fA H Z η ω) (r : RepL K fA H Z η vs ds) : RepL K fA H' Z' η' vs ds :=
  r.mono (fun b o h hz => by
    rcases hz with z | ⟨xs, rfl⟩
    · exact s.keep b o h (w.zη b z)
    · exact s.tups b xs h) s.zz (by obtain ⟨l, e, _⟩ := s.eta; exact ⟨l, e⟩)
end

/-! ### the slots -/
/-- a slot that owns its list: nobody else reads or writes at p -/
def OwnAt (K : PySem.W.Frag) (fA : Ad) (H0 H : Hp) (Z : Addr → Prop) (η : List Addr) (p : Addr) (ds : List Py.D) : Prop :=
  ∃ vs, H p = some (.lst vs) ∧ RepL K fA H Z η vs ds ∧ ¬ Z p ∧ p ∉ η ∧ H0 p = none
structure Slots (K : PySem.W.Frag) (fA : Ad) (xa : Option (Nat × Addr × Nat)) (H0 H : Hp) (Z : Addr → Prop) (η : List Addr) (σ : L2.St) (r : Py.Env) : Prop where
  len : r.length = σ.length
  val : ∀ (i : Nat) d, r[i]? = some (.v d) → ∃ v, σ[i]? = some (some v) ∧ Rep K fA H Z η v d
  own : ∀ (i : Nat) ds, r[i]? = some (.o ds) → ∃ p, σ[i]? = some (some (.ref p)) ∧ OwnAt K fA H0 H Z η p ds
  apart : ∀ (i j : Nat) ds es p, r[i]? = some (.o ds) → r[j]? = some (.o es) → σ[i]? = some (some (.ref p)) → σ[j]? = some (some (.ref p)) → i = j
  xs : ∀ (i : Nat) n, r[i]? = some (.x n) → ∃ a, xa = some (i, a, n) ∧ σ[i]? = some (some (.ref a))
structure EnvR (K : PySem.W.Frag) (fA : Ad) (xa : Option (Nat × Addr × Nat)) (H0 : Hp) (Z0 : Addr → Prop) (η0 : List Addr) (σ : L2.St) (r : Py.Env) (H : Hp) (Z : Addr → Prop) (η : List Addr) (ω : Py.Store) : Prop where
  w : WInv K fA H Z η ω
  s0 : Step H0 Z0 η0 H Z η
  sl : Slots K fA xa H0 H Z η σ r
section
variable {K : PySem.W.Frag} {fA : Ad} {xa : Option (Nat × Addr × Nat)} {H0 H H' : Hp} {Z0 Z Z' : Addr → Prop} {η0 η η' : List Addr} {ω ω' : Py.Store} {σ : L2.St} {r : Py.Env}
theorem OwnAt.step {p : Addr} {ds : List Py.D} (s : Step H Z η H' Z' η') (w : WInv K fA H Z η ω) (o : OwnAt K fA H0 H Z η p ds) : OwnAt K fA H0 H' Z' η' p ds := by
  obtain ⟨vs, h, rl, nz, nη, h0⟩ := o
  refine ⟨vs, s.keep _ _ h nη, s.repL w rl, fun z => ?_, fun m => ?_, h0⟩
  · rcases s.nz _ z with q | q
    · exact nz q
    · rw [q] at h; cases h
  · obtain ⟨l, rfl, hl⟩ := s.eta
    rcases List.mem_append.mp m with q | q
    · exact nη q
    · rw [hl _ q] at h; cases h
theorem Slots.step (s : Step H Z η H' Z' η') (w : WInv K fA H Z η ω) (o : Slots K fA xa H0 H Z η σ r) : Slots K fA xa H0 H' Z' η' σ r :=
  ⟨o.len, fun i d e => let ⟨v, h, q⟩ := o.val i d e; ⟨v, h, s.rep w q⟩, fun i ds e => let ⟨p, h, q⟩ := o.own i ds e; ⟨p, h, q.step s w⟩, o.apart, o.xs⟩
theorem EnvR.step (e : EnvR K fA xa H0 Z0 η0 σ r H Z η ω) (s : Step H Z η H' Z' η') (w : WInv K fA H' Z' η' ω') : EnvR K fA xa H0 Z0 η0 σ r H' Z' η' ω' :=
  ⟨w, e.s0.trans s, e.sl.step s e.w⟩
end
end PyS
end
section
namespace PyS
open PySem PySem.Spec PyProof.Rows L2

/-- where one stands: the context, where the defs and the classes of exceptions stand, what is wished of an exception, the state at the def's entry -/
structure Ct where
  X : Cx
  fA : Ad
  eA : Nat → Option Addr
  W : WX
  H0 : Hp
  Z0 : Addr → Prop
  η0 : List Addr
  xa : Option (Nat × Addr × Nat)
abbrev Ct.Env (c : Ct) (σ : L2.St) (r : Py.Env) (H : Hp) (Z : Addr → Prop) (η : List Addr) (ω : Py.Store) : Prop := EnvR c.X.K c.fA c.xa c.H0 c.Z0 c.η0 σ r H Z η ω
abbrev Ct.WI (c : Ct) (H : Hp) (Z : Addr → Prop) (η : List Addr) (ω : Py.Store) : Prop := WInv c.X.K c.fA H Z η ω
abbrev Ct.Rep (c : Ct) (H : Hp) (Z : Addr → Prop) (η : List Addr) (v : V) (d : Py.D) : Prop := PyS.Rep c.X.K c.fA H Z η v d
abbrev Ct.RepL (c : Ct) (H : Hp) (Z : Addr → Prop) (η : List Addr) (v : List V) (d : List Py.D) : Prop := PyS.RepL c.X.K c.fA H Z η v d
abbrev Ct.View (c : Ct) (H : Hp) (Z : Addr → Prop) (η : List Addr) (v : V) (d : Py.D) : Prop := PyS.View c.X.K c.fA H Z η v d
structure Ct.Nx (c : Ct) (H : Hp) (Z : Addr → Prop) (η : List Addr) (H' : Hp) (Z' : Addr → Prop) (η' : List Addr) (ω' : Py.Store) : Prop where
  s : Step H Z η H' Z' η'
  w : c.WI H' Z' η' ω'
theorem Ct.Nx.trans {c : Ct} {H H1 H2 : Hp} {Z Z1 Z2 : Addr → Prop} {η η1 η2 : List Addr} {ω1 ω2 : Py.Store} (a : c.Nx H Z η H1 Z1 η1 ω1) (b : c.Nx H1 Z1 η1 H2 Z2 η2 ω2) : c.Nx H Z η H2 Z2 η2 ω2 := ⟨a.s.trans b.s, b.w⟩

inductive Kd | val | frs | pk (i : Nat)
/-- how a result stands: a value; a new list that nobody else knows; the list that slot i owns -/
def ResR (c : Ct) (k : Kd) (r : Py.Env) (σ : L2.St) (H H' : Hp) (Z' : Addr → Prop) (η' : List Addr) (v : V) (d : Py.D) : Prop := match k with
  | .val => c.Rep H' Z' η' v d
  | .frs => (∃ p vs ds, v = .ref p ∧ d = .lst ds ∧ H p = none ∧ H' p = some (.lst vs) ∧ c.RepL H' Z' η' vs ds ∧ ¬ Z' p ∧ p ∉ η') ∨ (c.Rep H' Z' η' v d ∧ ∀ ds, d ≠ .lst ds)
  | .pk i => σ[i]? = some (some v) ∧ ∃ ds, r[i]? = some (.o ds) ∧ d = .lst ds
def post (c : Ct) (k : Kd) (σ : L2.St) (r : Py.Env) (H : Hp) (Z : Addr → Prop) (η : List Addr) (Q : VK) (res : Py.Res Py.D) : Prop := match res with
  | .ok d ω' => ∀ v H' Z' η', c.Nx H Z η H' Z' η' ω' → ResR c k r σ H H' Z' η' v d → Q v H'
  | .exc x ω' => ∀ H' Z' η' a, c.Nx H Z η H' Z' η' ω' → c.eA x = some a → c.W (.ref a) none σ H'
  | .stuck => False
/-- the reading of an expression that gives m -/
def tE (c : Ct) (k : Kd) (m : Py.Env → Py.M Py.D) : TE := fun σ H Q => ∃ Z η ω r, c.Env σ r H Z η ω ∧ post c k σ r H Z η Q (m r ω)
def JE (c : Ct) (k : Kd) (e : Expr) (m : Py.Env → Py.M Py.D) : Prop := PE c.X e (tE c k m)
theorem PE.imp {X : Cx} {e : Expr} {t t' : TE} (h : PE X e t) (i : ∀ σ H Q, t' σ H Q → t σ H Q) : PE X e t' := ⟨fun pins s σ H Q I q => h.run pins s σ H Q I (i σ H Q q)⟩

section
variable {c : Ct} {k ka kb kc : Kd} {r : Py.Env} {σ : L2.St} {H H1 H2 : Hp} {Z Z1 Z2 : Addr → Prop} {η η1 η2 : List Addr} {ω ω1 ω2 : Py.Store} {Q : VK} {v : V} {d : Py.D}
theorem ResR.step (q : ResR c k r σ H H1 Z1 η1 v d) (w1 : c.WI H1 Z1 η1 ω1) (s : Step H1 Z1 η1 H2 Z2 η2) : ResR c k r σ H H2 Z2 η2 v d := by
  cases k with
  | val => exact s.rep w1 q
  | pk i => exact q
  | frs =>
    rcases q with ⟨p, vs, ds, e1, e2, h0, h1, rl, nz, nη⟩ | ⟨q, q2⟩
    case inr => exact .inr ⟨s.rep w1 q, q2⟩
    refine .inl ⟨p, vs, ds, e1, e2, h0, s.keep _ _ h1 nη, s.repL w1 rl, fun z => ?_, fun m => ?_⟩
    · rcases s.nz _ z with q | q
      · exact nz q
      · rw [q] at h1; cases h1
    · obtain ⟨l, rfl, hl⟩ := s.eta
      rcases List.mem_append.mp m with q | q
      · exact nη q
      · rw [hl _ q] at h1; cases h1
theorem ResR.base (q : ResR c k r σ H1 H2 Z2 η2 v d) (s : Step H Z η H1 Z1 η1) : ResR c k r σ H H2 Z2 η2 v d := by
  cases k with
  | val => exact q
  | pk i => exact q
  | frs =>
    rcases q with ⟨p, vs, ds, e1, e2, h0, h1, rl, nz, nη⟩ | q
    case inr => exact .inr q
    refine .inl ⟨p, vs, ds, e1, e2, ?_, h1, rl, nz, nη⟩
    cases q : H p with
    | none => rfl
    | some o => exact absurd h0 (s.there p (by rw [q]; simp))
theorem ResR.view (q : ResR c k r σ H H1 Z1 η1 v d) (e : c.Env σ r H1 Z1 η1 ω1) : c.View H1 Z1 η1 v d := by
  cases k with
  | val => exact .of q
  | pk i =>
    obtain ⟨h, ds, e1, rfl⟩ := q
    obtain ⟨p, e2, vs, hp, rl, _⟩ := e.sl.own i ds e1
    rw [h] at e2
    cases e2
    exact .ls hp rl
  | frs =>
    rcases q with ⟨p, vs, ds, rfl, rfl, h0, h1, rl, nz, nη⟩ | q
    · exact .ls h1 rl
    · exact .of q.1
/-- a new list is never written again from here on -/
theorem ResR.freeze (q : ResR c .frs r σ H H1 Z1 η1 v d) (n : c.Nx H Z η H1 Z1 η1 ω1) : ∃ Z2, c.Nx H Z η H1 Z2 η1 ω1 ∧ c.Rep H1 Z2 η1 v d := by
  rcases q with ⟨p, vs, ds, rfl, rfl, h0, h1, rl, nz, nη⟩ | q
  case inr => exact ⟨_, n, q.1⟩
  have up : ∀ {vs : List V} {ds : List Py.D}, c.RepL H1 Z1 η1 vs ds → c.RepL H1 (fun b => Z1 b ∨ b = p) η1 vs ds := fun r => r.mono (fun _ _ h _ => h) (fun _ h => .inl h) ⟨[], by simp⟩
  refine ⟨fun b => Z1 b ∨ b = p, ⟨⟨n.s.keep, n.s.tups, n.s.there, fun b h => .inl (n.s.zz b h), fun b h => ?_, n.s.eta⟩, ⟨fun b h => ?_, fun b h => ?_, n.w.ηd, n.w.nd, n.w.len, fun i xs e => ?_⟩⟩, .lst (.inr rfl) h1 (up rl)⟩
  · rcases h with h | rfl
    · exact n.s.nz b h
    · exact .inr h0
  · rcases h with h | rfl
    · exact n.w.zη b h
    · exact nη
  · rcases h with h | rfl
    · exact n.w.zd b h
    · rw [h1]; simp
  · obtain ⟨a, vs, e1, e2, e3⟩ := n.w.cell i xs e
    exact ⟨a, vs, e1, e2, e3.map fun r => up r⟩
/-- what lies between two operands -/
def Mid (c : Ct) (k ka : Kd) (σ : L2.St) (H : Hp) (Q : VK) (f : Py.Env → Py.D → Py.M Py.D) (v : V) (H1 : Hp) : Prop :=
  ∃ Z η Z1 η1 ω1 r d, c.Env σ r H1 Z1 η1 ω1 ∧ Step H Z η H1 Z1 η1 ∧ ResR c ka r σ H H1 Z1 η1 v d ∧ post c k σ r H Z η Q (f r d ω1)
theorem tE.bnd {ma : Py.Env → Py.M Py.D} {f : Py.Env → Py.D → Py.M Py.D} (h : tE c k (fun r => Py.bnd (ma r) (f r)) σ H Q) : tE c ka ma σ H (Mid c k ka σ H Q f) := by
  obtain ⟨Z, η, ω, r, e, h⟩ := h
  refine ⟨Z, η, ω, r, e, ?_⟩
  unfold Py.bnd at h
  cases hm : ma r ω with
  | stuck => simp only [hm] at h; exact h
  | exc x ω' => simp only [hm] at h; exact h
  | ok d ω' =>
    simp only [hm] at h
    intro v H1 Z1 η1 n q
    exact ⟨Z, η, Z1, η1, ω', r, d, e.step n.s n.w, n.s, q, h⟩
def Mid2 (c : Ct) (k ka kb : Kd) (σ : L2.St) (H : Hp) (Q : VK) (f : Py.Env → Py.D → Py.D → Py.M Py.D) (v u : V) (H2 : Hp) : Prop :=
  ∃ Z η Z2 η2 ω2 r d e, c.Env σ r H2 Z2 η2 ω2 ∧ Step H Z η H2 Z2 η2 ∧ ResR c ka r σ H H2 Z2 η2 v d ∧ ResR c kb r σ H H2 Z2 η2 u e ∧ post c k σ r H Z η Q (f r d e ω2)
theorem Mid.bnd {mb : Py.Env → Py.M Py.D} {f : Py.Env → Py.D → Py.D → Py.M Py.D} (h : Mid c k ka σ H Q (fun r x => Py.bnd (mb r) (f r x)) v H1) : tE c kb mb σ H1 (Mid2 c k ka kb σ H Q f v) := by
  obtain ⟨Z, η, Z1, η1, ω1, r, d, e, s, q, h⟩ := h
  refine ⟨Z1, η1, ω1, r, e, ?_⟩
  unfold Py.bnd at h
  cases hm : mb r ω1 with
  | stuck => simp only [hm] at h; exact h
  | exc x ω' =>
    simp only [hm] at h
    intro H' Z' η' a n ha
    exact h H' Z' η' a ⟨s.trans n.s, n.w⟩ ha
  | ok d2 ω' =>
    simp only [hm] at h
    intro u H2 Z2 η2 n q2
    exact ⟨Z, η, Z2, η2, ω', r, d, d2, e.step n.s n.w, s.trans n.s, q.step e.w n.s, q2.base s, h⟩
def Mid3 (c : Ct) (k ka kb kc : Kd) (σ : L2.St) (H : Hp) (Q : VK) (f : Py.Env → Py.D → Py.D → Py.D → Py.M Py.D) (v u t : V) (H2 : Hp) : Prop :=
  ∃ Z η Z2 η2 ω2 r d e g, c.Env σ r H2 Z2 η2 ω2 ∧ Step H Z η H2 Z2 η2 ∧ ResR c ka r σ H H2 Z2 η2 v d ∧ ResR c kb r σ H H2 Z2 η2 u e ∧ ResR c kc r σ H H2 Z2 η2 t g ∧ post c k σ r H Z η Q (f r d e g ω2)
theorem Mid2.bnd {u : V} {mc : Py.Env → Py.M Py.D} {f : Py.Env → Py.D → Py.D → Py.D → Py.M Py.D} (h : Mid2 c k ka kb σ H Q (fun r x y => Py.bnd (mc r) (f r x y)) v u H1) : tE c kc mc σ H1 (Mid3 c k ka kb kc σ H Q f v u) := by
  obtain ⟨Z, η, Z1, η1, ω1, r, d, d', e, s, q, q', h⟩ := h
  refine ⟨Z1, η1, ω1, r, e, ?_⟩
  unfold Py.bnd at h
  cases hm : mc r ω1 with
  | stuck => simp only [hm] at h; exact h
  | exc x ω' =>
    simp only [hm] at h
    intro H' Z' η' a n ha
    exact h H' Z' η' a ⟨s.trans n.s, n.w⟩ ha
  | ok d2 ω' =>
    simp only [hm] at h
    intro u H2 Z2 η2 n q2
    exact ⟨Z, η, Z2, η2, ω', r, d, d', d2, e.step n.s n.w, s.trans n.s, q.step e.w n.s, q'.step e.w n.s, q2.base s, h⟩
end

theorem tE.weaken {c : Ct} {m : Py.Env → Py.M Py.D} {σ : L2.St} {H : Hp} {Q : VK} (h : tE c .val m σ H Q) : tE c .frs m σ H Q := by
  obtain ⟨Z, η, ω, r, e, q⟩ := h
  refine ⟨Z, η, ω, r, e, ?_⟩
  cases hm : m r ω with
  | stuck => rw [hm] at q; exact q
  | exc x ω' => rw [hm] at q; exact q
  | ok d ω' =>
    rw [hm] at q
    intro v H' Z' η' n qr
    obtain ⟨Z2, n2, r2⟩ := qr.freeze n
    exact q v H' Z2 η' n2 r2
theorem JE.weaken {c : Ct} {e : Expr} {m : Py.Env → Py.M Py.D} (h : JE c .frs e m) : JE c .val e m := PE.imp h fun σ H Q q => q.weaken
section
variable {c : Ct} {H H1 : Hp} {Z Z1 : Addr → Prop} {η η1 : List Addr} {ω1 : Py.Store} {p : Addr} {o : HO}
theorem Step.new (hp : H p = none) : Step H Z η (upd H p o) Z η :=
  ⟨fun b u h _ => by rw [upd_ne (ne_of_none h hp)]; exact h, fun b xs h => by rw [upd_ne (ne_of_none h hp)]; exact h, fun b h => by
    by_cases e : b = p
    · subst e; exact absurd hp h
    · rw [upd_ne e]; exact h, fun _ h => h, fun _ h => .inl h, [], by simp, fun _ h => absurd h (by simp)⟩
theorem Ct.WI.new (w : c.WI H Z η ω1) (hp : H p = none) : c.WI (upd H p o) Z η ω1 := by
  have s : Step H Z η (upd H p o) Z η := .new hp
  refine ⟨w.zη, fun b h => s.there b (w.zd b h), fun b h => s.there b (w.ηd b h), w.nd, w.len, fun n xs e => ?_⟩
  obtain ⟨a, vs, e1, e2, e3⟩ := w.cell n xs e
  exact ⟨a, vs, e1, by rw [upd_ne (ne_of_none e2 hp)]; exact e2, e3.map fun r => s.repL w r⟩
theorem Ct.Nx.new (n : c.Nx H Z η H1 Z1 η1 ω1) (hp : H1 p = none) : c.Nx H Z η (upd H1 p o) Z1 η1 ω1 := ⟨n.s.trans (.new hp), Ct.WI.new n.w hp⟩
theorem Ct.WI.znone (w : c.WI H Z η ω1) (hp : H p = none) : ¬ Z p ∧ p ∉ η := ⟨fun z => w.zd p z hp, fun m => w.ηd p m hp⟩
theorem Ct.Nx.none (n : c.Nx H Z η H1 Z1 η1 ω1) (hp : H1 p = none) : H p = none := by
  cases q : H p with
  | none => rfl
  | some u => exact absurd hp (n.s.there p (by rw [q]; simp))
/-- .. a list, nobody else's -/
theorem ResR.newL {r : Py.Env} {σ : L2.St} {vs : List V} {ds : List Py.D} (n : c.Nx H Z η H1 Z1 η1 ω1) (hp : H1 p = none) (rl : c.RepL H1 Z1 η1 vs ds) : ResR c .frs r σ H (upd H1 p (.lst vs)) Z1 η1 (.ref p) (.lst ds) :=
  .inl ⟨p, vs, ds, rfl, rfl, n.none hp, upd_same, (Step.new hp).repL n.w rl, (Ct.WI.znone n.w hp).1, (Ct.WI.znone n.w hp).2⟩
theorem Rep.newT {vs : List V} {ds : List Py.D} (n : c.Nx H Z η H1 Z1 η1 ω1) (hp : H1 p = none) (rl : c.RepL H1 Z1 η1 vs ds) : c.Rep (upd H1 p (.tup vs)) Z1 η1 (.ref p) (.tup ds) :=
  .tup upd_same ((Step.new hp).repL n.w rl)
end

/-! ### leaves -/
section
variable {c : Ct} {k ka kb kc : Kd} {σ : L2.St} {H H1 H2 : Hp} {Q : VK} {v u : V}
/-- a pure end behind one operand -/
theorem Mid.pure {g : Py.D → Option Py.D} (h : Mid c k ka σ H Q (fun _ x => Py.lif (g x)) v H1) :
    ∃ Z η Z1 η1 ω1 r d y, c.Env σ r H1 Z1 η1 ω1 ∧ Step H Z η H1 Z1 η1 ∧ c.View H1 Z1 η1 v d ∧ g d = some y ∧ ∀ v' H' Z' η', c.Nx H Z η H' Z' η' ω1 → ResR c k r σ H H' Z' η' v' y → Q v' H' := by
  obtain ⟨Z, η, Z1, η1, ω1, r, d, e, s, q, h⟩ := h
  replace h : post c k σ r H Z η Q (Py.lif (g d) ω1) := h
  cases hg : g d with
  | none => rw [hg] at h; exact h.elim
  | some y => rw [hg] at h; exact ⟨Z, η, Z1, η1, ω1, r, d, y, e, s, q.view e, hg, h⟩
theorem Mid2.pure {g : Py.D → Py.D → Option Py.D} (h : Mid2 c k ka kb σ H Q (fun _ x y => Py.lif (g x y)) v u H1) :
    ∃ Z η Z1 η1 ω1 r d e y, c.Env σ r H1 Z1 η1 ω1 ∧ Step H Z η H1 Z1 η1 ∧ c.View H1 Z1 η1 v d ∧ c.View H1 Z1 η1 u e ∧ g d e = some y ∧ ∀ v' H' Z' η', c.Nx H Z η H' Z' η' ω1 → ResR c k r σ H H' Z' η' v' y → Q v' H' := by
  obtain ⟨Z, η, Z1, η1, ω1, r, d, d', e, s, q, q', h⟩ := h
  replace h : post c k σ r H Z η Q (Py.lif (g d d') ω1) := h
  cases hg : g d d' with
  | none => rw [hg] at h; exact h.elim
  | some y => rw [hg] at h; exact ⟨Z, η, Z1, η1, ω1, r, d, d', y, e, s, q.view e, q'.view e, hg, h⟩
end
end PyS
end
section
namespace PyS
open PySem PySem.Spec PyProof.Rows L2
/-! ### data, as the library's == reads it -/
mutual
def toPy : Py.D → PyData
  | .non => .none
  | .bl b => .bool b
  | .int i => .int i
  | .str cs => .str ⟨cs.toArray⟩
  | .tup xs => .tuple (toPys xs)
  | .lst xs => .list (toPys xs)
  | .scr xs => .list (toPys xs)
  | _ => .none
def toPys : List Py.D → List PyData
  | [] => []
  | x :: xs => toPy x :: toPys xs
end
theorem beq_tx (x y : List Nat) : ((⟨x.toArray⟩ : Str) == ⟨y.toArray⟩) = (x == y) := by
  rw [Bool.eq_iff_iff]
  simp
mutual
theorem eqv_toPy : ∀ (x y : Py.D) (n m : Nat), Py.shp n x = true → Py.shp m y = true → PyData.eqv (toPy x) (toPy y) = Py.eqD x y
  | .str x, y, n, m, hx, hy => by
    cases y <;> first
      | (simp only [toPy, PyData.eqv, Py.eqD]; done)
      | (simp only [toPy, PyData.eqv, Py.eqD]; exact beq_tx _ _)
      | (exfalso; revert hy; cases m <;> simp [Py.shp]; done)
  | .tup xs, y, n, m, hx, hy => by
    cases y <;> first
      | (simp only [toPy, PyData.eqv, Py.eqD]; done)
      | (exfalso; revert hy; cases m <;> simp [Py.shp]; done)
      | (simp only [toPy, PyData.eqv, Py.eqD]
         cases n with
         | zero => simp [Py.shp] at hx
         | succ n => cases m with
           | zero => simp [Py.shp] at hy
           | succ m => exact eqv_toPys xs _ n m (by simpa [Py.shp] using hx) (by simpa [Py.shp] using hy))
  | .lst xs, y, n, m, hx, hy => by
    cases y <;> first
      | (simp only [toPy, PyData.eqv, Py.eqD]; done)
      | (exfalso; revert hy; cases m <;> simp [Py.shp]; done)
      | (simp only [toPy, PyData.eqv, Py.eqD]
         cases n with
         | zero => simp [Py.shp] at hx
         | succ n => cases m with
           | zero => simp [Py.shp] at hy
           | succ m => exact eqv_toPys xs _ n m (by simpa [Py.shp] using hx) (by simpa [Py.shp] using hy))
  | .non, y, n, m, hx, hy => by
    cases y <;> first
      | (simp only [toPy, PyData.eqv, Py.eqD]; done)
      | (exfalso; revert hy; cases m <;> simp [Py.shp]; done)
  | .bl _, y, n, m, hx, hy => by
    cases y <;> first
      | (simp only [toPy, PyData.eqv, Py.eqD]; done)
      | (exfalso; revert hy; cases m <;> simp [Py.shp]; done)
  | .int _, y, n, m, hx, hy => by
    cases y <;> first
      | (simp only [toPy, PyData.eqv, Py.eqD]; done)
      | (exfalso; revert hy; cases m <;> simp [Py.shp]; done)
  | .scr _, y, n, m, hx, hy => by cases n <;> simp [Py.shp] at hx
  | .fn _, y, n, m, hx, hy => by cases n <;> simp [Py.shp] at hx
  | .loc _, y, n, m, hx, hy => by cases n <;> simp [Py.shp] at hx
  | .exc _, y, n, m, hx, hy => by cases n <;> simp [Py.shp] at hx
  | .clo _ _, y, n, m, hx, hy => by cases n <;> simp [Py.shp] at hx
theorem eqv_toPys : ∀ (xs ys : List Py.D) (n m : Nat), (∀ x ∈ xs, Py.shp n x = true) → (∀ y ∈ ys, Py.shp m y = true) → PyData.eqvAll (toPys xs) (toPys ys) = Py.eqL xs ys
  | [], [], _, _, _, _ => by simp only [toPys, PyData.eqvAll, Py.eqL]
  | [], y :: ys, _, _, _, _ => by simp only [toPys, PyData.eqvAll, Py.eqL]
  | x :: xs, [], _, _, _, _ => by simp only [toPys, PyData.eqvAll, Py.eqL]
  | x :: xs, y :: ys, n, m, hx, hy => by
    simp only [toPys, PyData.eqvAll, Py.eqL]
    rw [eqv_toPy x y n m (hx x (by simp)) (hy y (by simp)), eqv_toPys xs ys n m (fun z hz => hx z (by simp [hz])) (fun z hz => hy z (by simp [hz]))]
end
theorem eqv_shS {x y : Py.D} (hx : Py.shS x = true) (hy : Py.shp 8 y = true) : PyData.eqv (toPy x) (toPy y) = Py.eqD x y := by
  cases x with
  | scr xs =>
    have hx' : ∀ x ∈ xs, Py.shp 1 x = true := by simpa [Py.shS] using hx
    cases y with
    | lst ys =>
      simp only [toPy, PyData.eqv, Py.eqD]
      exact eqv_toPys xs ys 1 7 hx' (by simpa [Py.shp] using hy)
    | scr _ => simp [Py.shp] at hy
    | fn _ => simp [Py.shp] at hy
    | loc _ => simp [Py.shp] at hy
    | exc _ => simp [Py.shp] at hy
    | clo _ _ => simp [Py.shp] at hy
    | _ => simp only [toPy, PyData.eqv, Py.eqD]
  | _ => exact eqv_toPy _ _ 8 8 hx hy
/-! ### .. its depth, its signs -/
mutual
theorem depth_toPy : ∀ (x : Py.D) (n : Nat), Py.shp n x = true → (toPy x).depth ≤ n
  | .non, n, _ => by simp [toPy, PyData.depth]
  | .bl _, n, _ => by simp [toPy, PyData.depth]
  | .int _, n, _ => by simp [toPy, PyData.depth]
  | .str _, n, _ => by simp [toPy, PyData.depth]
  | .tup xs, 0, h => by simp [Py.shp] at h
  | .tup xs, n + 1, h => by
    have := depth_toPys xs n (by simpa [Py.shp] using h)
    simp only [toPy, PyData.depth]
    omega
  | .lst xs, 0, h => by simp [Py.shp] at h
  | .lst xs, n + 1, h => by
    have := depth_toPys xs n (by simpa [Py.shp] using h)
    simp only [toPy, PyData.depth]
    omega
  | .scr _, n, hx => by cases n <;> simp [Py.shp] at hx
  | .fn _, n, hx => by cases n <;> simp [Py.shp] at hx
  | .loc _, n, hx => by cases n <;> simp [Py.shp] at hx
  | .exc _, n, hx => by cases n <;> simp [Py.shp] at hx
  | .clo _ _, n, hx => by cases n <;> simp [Py.shp] at hx
theorem depth_toPys : ∀ (xs : List Py.D) (n : Nat), (∀ x ∈ xs, Py.shp n x = true) → PyData.depthAll (toPys xs) ≤ n
  | [], n, _ => by simp [toPys, PyData.depthAll]
  | x :: xs, n, h => by
    have h1 := depth_toPy x n (h x (by simp))
    have h2 := depth_toPys xs n fun z hz => h z (by simp [hz])
    simp only [toPys, PyData.depthAll]
    omega
end
section
variable {K : PySem.W.Frag} {fA : Ad} {H : Hp} {Z : Addr → Prop} {η : List Addr}
mutual
theorem Rep.dp : ∀ (d : Py.D) (v : V) (n : Nat), Rep K fA H Z η v d → Py.shp n d = true → Dp K H v (toPy d) ∧ (toPy d).canLay0 = true
  | .non, _, _, h, _ => by cases h; exact ⟨.non, by simp [toPy, PyData.canLay0]⟩
  | .bl _, _, _, h, _ => by cases h; exact ⟨.bl _, by simp [toPy, PyData.canLay0]⟩
  | .int _, _, _, h, _ => by cases h; exact ⟨.int _, by simp [toPy, PyData.canLay0]⟩
  | .str cs, _, _, h, _ => by
    cases h with
    | str _ hc => exact ⟨.str _, by simpa [toPy, PyData.canLay0, PyData.strOk] using hc⟩
  | .tup xs, _, 0, _, hs => by simp [Py.shp] at hs
  | .tup xs, _, n + 1, h, hs => by
    cases h with
    | tup e r =>
      obtain ⟨h1, h2⟩ := RepL.dp xs _ n r (by simpa [Py.shp] using hs)
      exact ⟨.tup (.of e) h1, by simp only [toPy, PyData.canLay0]; exact h2⟩
  | .lst xs, _, 0, _, hs => by simp [Py.shp] at hs
  | .lst xs, _, n + 1, h, hs => by
    cases h with
    | lst z e r =>
      obtain ⟨h1, h2⟩ := RepL.dp xs _ n r (by simpa [Py.shp] using hs)
      exact ⟨.lst (.of e) h1, by simp only [toPy, PyData.canLay0]; exact h2⟩
  | .scr _, _, n, _, hx => by cases n <;> simp [Py.shp] at hx
  | .fn _, _, n, _, hx => by cases n <;> simp [Py.shp] at hx
  | .loc _, _, n, _, hx => by cases n <;> simp [Py.shp] at hx
  | .exc _, _, n, _, hx => by cases n <;> simp [Py.shp] at hx
  | .clo _ _, _, n, _, hx => by cases n <;> simp [Py.shp] at hx
theorem RepL.dp : ∀ (ds : List Py.D) (vs : List V) (n : Nat), RepL K fA H Z η vs ds → (∀ x ∈ ds, Py.shp n x = true) → DpAll K H vs (toPys ds) ∧ PyData.canLayAll0 (toPys ds) = true
  | [], _, _, h, _ => by cases h; exact ⟨.nil, by simp [toPys, PyData.canLayAll0]⟩
  | d :: ds, _, n, h, hs => by
    cases h with
    | cons r t =>
      obtain ⟨h1, h2⟩ := Rep.dp d _ n r (hs d (by simp))
      obtain ⟨h3, h4⟩ := RepL.dp ds _ n t fun z hz => hs z (by simp [hz])
      exact ⟨.cons h1 h3, by simp only [toPys, PyData.canLayAll0, h2, h4, Bool.and_self]⟩
end
theorem View.dp {d : Py.D} {v : V} (h : View K fA H Z η v d) (hs : Py.shS d = true) : Dp K H v (toPy d) ∧ SeqAt.shaped (toPy d) = true := by
  have fin : ∀ {n : Nat} {d : Py.D}, n ≤ 64 → (toPy d).canLay0 = true → (toPy d).depth ≤ n → SeqAt.shaped (toPy d) = true := fun hn h1 h2 => by
    show ((toPy _).canLay0 && decide ((toPy _).depth ≤ 64)) = true
    rw [h1, Bool.true_and]
    exact decide_eq_true (by omega)
  by_cases hsc : ∃ xs, d = .scr xs
  · obtain ⟨xs, rfl⟩ := hsc
    have hx' : ∀ x ∈ xs, Py.shp 1 x = true := by simpa [Py.shS] using hs
    obtain ⟨a, vs, rfl, hq, rl⟩ := h.scr
    obtain ⟨h1, h2⟩ := RepL.dp xs vs 1 rl hx'
    refine ⟨.lst hq h1, fin (n := 2) (by omega) (by simp only [toPy, PyData.canLay0]; exact h2) ?_⟩
    have := depth_toPys xs 1 hx'
    simp only [toPy, PyData.depth]
    omega
  · have hs8 : Py.shp 8 d = true := by
      cases d <;> first | exact hs | exact absurd ⟨_, rfl⟩ hsc
    have hd := depth_toPy d 8 hs8
    cases h with
    | of h =>
      obtain ⟨h1, h2⟩ := Rep.dp d v 8 h hs8
      exact ⟨h1, fin (n := 8) (by omega) h2 hd⟩
    | ls h r =>
      obtain ⟨h1, h2⟩ := RepL.dp _ _ 7 r (by simpa [Py.shp] using hs8)
      exact ⟨.lst (.of h) h1, fin (n := 8) (by omega) (by simp only [toPy, PyData.canLay0]; exact h2) hd⟩
end
end PyS
end
section
namespace PyS
open PySem PySem.Spec PyProof.Rows L2
theorem lim_eq : Py.LIM = sizeLine := by rw [sizeLine_eq]
def opOf : Py.Bop → Operator
  | .add => .Add | .sub => .Sub | .mul => .Mult | .fdiv => .FloorDiv | .mod => .Mod | .pow => .Pow
def copOf : Py.Cop → CmpOp
  | .eq => .Eq | .ne => .NotEq | .lt => .Lt | .le => .LtE | .gt => .Gt | .ge => .GtE | .inn => .In | .nin => .NotIn
section
variable {c : Ct} {k ka kb kc : Kd} {σ : L2.St} {H H1 H2 : Hp} {Q : VK} {v u : V}
/-- what an operation on two values must do to be the operation on data -/
def OpS (X : Cx) (f : Value → Value → Sem Value) (c : Ct) (g : Py.D → Py.D → Option Py.D) : Prop :=
  ∃ r : R2, OpR X f r ∧ ∀ (x y : V) (d e z : Py.D) (H : Hp) (Z : Addr → Prop) (η : List Addr) (ω : Py.Store) (Q : VK), c.WI H Z η ω → c.View H Z η x d → c.View H Z η y e → g d e = some z →
    (∀ v H', (∃ p, H p = none ∧ ((∃ vs ds, v = .ref p ∧ z = .lst ds ∧ H' = upd H p (.lst vs) ∧ c.RepL H Z η vs ds) ∨ (∃ vs ds, v = .ref p ∧ z = .tup ds ∧ H' = upd H p (.tup vs) ∧ c.RepL H Z η vs ds))) ∨ (H' = H ∧ c.Rep H Z η v z ∧ ∀ ds, z ≠ .lst ds) → Q v H') → r x y H Q
theorem finish {r : Py.Env} {Z Z1 : Addr → Prop} {η η1 : List Addr} {ω1 : Py.Store} {z : Py.D} (e : c.Env σ r H1 Z1 η1 ω1) (s : Step H Z η H1 Z1 η1)
    (h : ∀ v' H' Z' η', c.Nx H Z η H' Z' η' ω1 → ResR c .frs r σ H H' Z' η' v' z → Q v' H') :
    ∀ v H', (∃ p, H1 p = none ∧ ((∃ vs ds, v = .ref p ∧ z = .lst ds ∧ H' = upd H1 p (.lst vs) ∧ c.RepL H1 Z1 η1 vs ds) ∨ (∃ vs ds, v = .ref p ∧ z = .tup ds ∧ H' = upd H1 p (.tup vs) ∧ c.RepL H1 Z1 η1 vs ds))) ∨ (H' = H1 ∧ c.Rep H1 Z1 η1 v z ∧ ∀ ds, z ≠ .lst ds) → Q v H' := by
  have n : c.Nx H Z η H1 Z1 η1 ω1 := ⟨s, e.w⟩
  rintro v H' (⟨p, hp, ⟨vs, ds, rfl, rfl, rfl, rl⟩ | ⟨vs, ds, rfl, rfl, rfl, rl⟩⟩ | ⟨rfl, q, nl⟩)
  · exact h _ _ Z1 η1 (n.new hp) (ResR.newL n hp rl)
  · exact h _ _ Z1 η1 (n.new hp) (.inr ⟨Rep.newT n hp rl, fun _ z => by cases z⟩)
  · exact h _ _ Z1 η1 n (.inr ⟨q, nl⟩)
theorem tE.mono {m : Py.Env → Py.M Py.D} {Q' : VK} (h : tE c k m σ H Q) (i : ∀ v H', Q v H' → Q' v H') : tE c k m σ H Q' := by
  obtain ⟨Z, η, ω, r, e, h⟩ := h
  refine ⟨Z, η, ω, r, e, ?_⟩
  cases hm : m r ω with
  | stuck => rw [hm] at h; exact h
  | exc x ω' => rw [hm] at h; exact h
  | ok d ω' => rw [hm] at h; exact fun v H' Z' η' n q => i _ _ (h v H' Z' η' n q)
theorem je_op {op : Operator} {a b : Expr} {pos : Pos} {ma mb : Py.Env → Py.M Py.D} {g : Py.D → Py.D → Option Py.D} (ho : OpS c.X (binaryOp op) c g) (ha : JE c ka a ma) (hb : JE c kb b mb) :
    JE c .frs (.BinOp a op b pos) (fun r => Py.bnd (ma r) fun x => Py.bnd (mb r) fun y => Py.lif (g x y)) := by
  obtain ⟨r, h1, h2⟩ := ho
  refine PE.imp (pe_op h1 ha hb) fun σ H Q h => ?_
  refine tE.mono h.bnd fun x H1 hx => tE.mono hx.bnd fun y H2 hy => ?_
  obtain ⟨Z, η, Z1, η1, ω1, r, d, e, z, en, s, vd, ve, hg, q⟩ := hy.pure
  exact h2 x y d e z H2 Z1 η1 ω1 Q en.w vd ve hg (finish en s q)
/-! ### + - * // % ** -/
theorem small_iff {i : Int} : Py.small i = true ↔ -(2 ^ 64) < i ∧ i < 2 ^ 64 := by
  simp [Py.small]
theorem str_of (x : Str) : (⟨x.cps.toList.toArray⟩ : Str) = x := by cases x; simp
theorem str_add (x y : List Nat) : (⟨x.toArray⟩ : Str) ++ ⟨y.toArray⟩ = ⟨(x ++ y).toArray⟩ := by
  show (⟨x.toArray ++ y.toArray⟩ : Str) = _
  simp
theorem len_tx (x : List Nat) : (⟨x.toArray⟩ : Str).length = x.length := by
  show x.toArray.size = x.length
  simp
theorem opS_add : OpS c.X (binaryOp .Add) c (Py.binD .add) := by
  refine ⟨_, op_add.or (op_add_ib.or (op_add_str.or (op_catA.or op_cat))), ?_⟩
  intro x y d e z H Z η ω Q w vd ve hg q
  cases d <;> cases e <;> (try (simp [Py.binD] at hg; done))
  case int.bl i b =>
    simp only [Py.binD, Option.some.injEq] at hg
    subst hg
    cases vd.int
    cases ve.bl
    refine .inr (.inl ⟨_, _, rfl, rfl, q _ _ (.inr ⟨rfl, ?_, fun _ z => by cases z⟩)⟩)
    have e : b2i b = if b = true then 1 else 0 := by cases b <;> rfl
    rw [e]
    exact .int _
  case int.int i j =>
    simp only [Py.binD, Option.some.injEq] at hg
    subst hg
    cases vd.int
    cases ve.int
    exact .inl ⟨_, _, rfl, rfl, q _ _ (.inr ⟨rfl, .int _, fun _ z => by cases z⟩)⟩
  case str.str s t =>
    simp only [Py.binD] at hg
    split at hg
    case isFalse => cases hg
    case isTrue hl =>
      cases hg
      obtain ⟨rfl, h1⟩ := vd.str
      obtain ⟨rfl, h2⟩ := ve.str
      refine .inr (.inr (.inl ⟨_, _, rfl, rfl, by rw [len_tx, len_tx, ← lim_eq]; exact hl, q _ _ (.inr ⟨rfl, ?_, fun _ z => by cases z⟩)⟩))
      rw [str_add]
      exact .str _ (by rw [List.all_append, h1, h2]; rfl)
  case tup.tup xs ys =>
    simp only [Py.binD] at hg
    split at hg
    case isFalse => cases hg
    case isTrue hl =>
      cases hg
      obtain ⟨a, vs, rfl, h1, r1⟩ := vd.tup
      obtain ⟨b, us, rfl, h2, r2⟩ := ve.tup
      refine .inr (.inr (.inr (.inl ⟨a, b, vs, us, rfl, rfl, .of h1, .of h2, by rw [r1.length, r2.length, ← lim_eq]; exact hl, fun e => q _ _ (.inr ⟨rfl, ?_, fun _ z => by cases z⟩), fun _ e => q _ _ (.inr ⟨rfl, ?_, fun _ z => by cases z⟩), fun _ _ p hp => q _ _ (.inl ⟨p, hp, .inr ⟨_, _, rfl, rfl, rfl, r1.append r2⟩⟩)⟩)))
      · subst e
        cases r1
        rw [List.nil_append]
        exact .tup h2 r2
      · subst e
        cases r2
        rw [List.append_nil]
        exact .tup h1 r1
  case lst.lst xs ys =>
    simp only [Py.binD] at hg
    split at hg
    case isFalse => cases hg
    case isTrue hl =>
      cases hg
      obtain ⟨a, vs, rfl, h1, r1⟩ := vd.lst
      obtain ⟨b, us, rfl, h2, r2⟩ := ve.lst
      exact .inr (.inr (.inr (.inr ⟨a, b, vs, us, rfl, rfl, h1, h2, by rw [r1.length, r2.length, ← lim_eq]; exact hl, fun p hp => q _ _ (.inl ⟨p, hp, .inl ⟨_, _, rfl, rfl, rfl, r1.append r2⟩⟩)⟩)))
theorem opS_ii {f : Value → Value → Sem Value} {g : Py.D → Py.D → Option Py.D} {C : Int → Int → Prop} {h : Int → Int → Int} (ho : OpR c.X f (rI C fun i j => .int (h i j)))
    (hg : ∀ d e z, g d e = some z → ∃ i j, d = .int i ∧ e = .int j ∧ C i j ∧ z = .int (h i j)) : OpS c.X f c g := by
  refine ⟨_, ho, ?_⟩
  intro x y d e z H Z η ω Q w vd ve hgz q
  obtain ⟨i, j, rfl, rfl, hc, rfl⟩ := hg d e z hgz
  cases vd.int
  cases ve.int
  exact ⟨i, j, rfl, rfl, hc, q _ _ (.inr ⟨rfl, .int _, fun _ z => by cases z⟩)⟩
theorem opS_sub : OpS c.X (binaryOp .Sub) c (Py.binD .sub) := by
  refine opS_ii (C := fun _ _ => True) (h := fun i j => i - j) ?_ fun d e z hg => ?_
  · intro pins s σ H x y v u Q I rx ry ⟨i, j, e1, e2, _, q⟩
    exact op_sub pins s σ H x y v u Q I rx ry ⟨i, j, e1, e2, q⟩
  · cases d <;> cases e <;> (try (simp [Py.binD] at hg; done))
    simp only [Py.binD, Option.some.injEq] at hg
    exact ⟨_, _, rfl, rfl, trivial, hg.symm⟩
theorem opS_fdiv : OpS c.X (binaryOp .FloorDiv) c (Py.binD .fdiv) := by
  refine opS_ii (h := fun i j => i / j) op_fdivW fun d e z hg => ?_
  cases d <;> cases e <;> (try (simp [Py.binD] at hg; done))
  simp only [Py.binD] at hg
  split at hg
  case isFalse => cases hg
  case isTrue hl =>
    cases hg
    exact ⟨_, _, rfl, rfl, wide_div (b := 64) hl.1 (by have := hl.1; have := hl.2; omega) (by decide) (by decide), rfl⟩
theorem opS_mod : OpS c.X (binaryOp .Mod) c (Py.binD .mod) := by
  refine opS_ii (h := fun i j => i % j) op_mod fun d e z hg => ?_
  cases d <;> cases e <;> (try (simp [Py.binD] at hg; done))
  simp only [Py.binD] at hg
  split at hg
  case isFalse => cases hg
  case isTrue hl =>
    cases hg
    exact ⟨_, _, rfl, rfl, hl, rfl⟩
theorem small_abs {i : Int} (h : Py.small i = true) : i.natAbs < 2 ^ 64 := by
  have := small_iff.mp h
  omega
theorem opS_pow : OpS c.X (binaryOp .Pow) c (Py.binD .pow) := by
  refine opS_ii (h := fun i j => i ^ j.toNat) op_pow fun d e z hg => ?_
  cases d <;> cases e <;> (try (simp [Py.binD] at hg; done))
  simp only [Py.binD] at hg
  split at hg
  case isFalse => cases hg
  case isTrue hl =>
    cases hg
    exact ⟨_, _, rfl, rfl, ⟨hl.1, by have := hl.2.1; omega, small_abs hl.2.2⟩, rfl⟩
theorem opS_mul : OpS c.X (binaryOp .Mult) c (Py.binD .mul) := by
  refine ⟨_, op_mul.or op_rep, ?_⟩
  intro x y d e z H Z η ω Q w vd ve hg q
  cases d <;> cases e <;> (try (simp [Py.binD] at hg; done))
  case int.int i j =>
    simp only [Py.binD] at hg
    split at hg
    case isFalse => cases hg
    case isTrue hl =>
      cases hg
      cases vd.int
      cases ve.int
      refine .inl ⟨_, _, rfl, rfl, ?_, q _ _ (.inr ⟨rfl, .int _, fun _ z => by cases z⟩)⟩
      rcases Bool.or_eq_true_iff.mp hl with h | h
      · exact .inl (small_iff.mp h)
      · exact .inr (small_iff.mp h)
  case lst.int xs k =>
    simp only [Py.binD] at hg
    split at hg
    case isFalse => cases hg
    case isTrue hl =>
      cases hg
      obtain ⟨a, vs, rfl, h1, r1⟩ := vd.lst
      cases ve.int
      have hk : k ≤ 16777216 := hl.2.1
      have hk0 := hl.1
      exact .inr ⟨a, k, vs, rfl, rfl, h1, by omega, by omega, by rw [r1.length, ← lim_eq]; exact hl.2.2, fun p hp => q _ _ (.inl ⟨p, hp, .inl ⟨_, _, rfl, rfl, rfl, RepL.flat _ r1⟩⟩)⟩
theorem opS_bin (o : Py.Bop) : OpS c.X (binaryOp (opOf o)) c (Py.binD o) := by
  cases o
  · exact opS_add
  · exact opS_sub
  · exact opS_mul
  · exact opS_fdiv
  · exact opS_mod
  · exact opS_pow
end
end PyS
end
section
namespace PyS
open PySem PySem.Spec PyProof.Rows L2
/-! ### tests -/
def postB (c : Ct) (σ : L2.St) (H : Hp) (Z : Addr → Prop) (η : List Addr) (Q : Bool → Hp → Prop) (res : Py.Res Bool) : Prop := match res with
  | .ok d ω' => ∀ H' Z' η', c.Nx H Z η H' Z' η' ω' → Q d H'
  | .exc x ω' => ∀ H' Z' η' a, c.Nx H Z η H' Z' η' ω' → c.eA x = some a → c.W (.ref a) none σ H'
  | .stuck => False
def tT (c : Ct) (m : Py.Env → Py.M Bool) : TT := fun σ H Q => ∃ Z η ω r, c.Env σ r H Z η ω ∧ postB c σ H Z η Q (m r ω)
def JT (c : Ct) (e : Expr) (m : Py.Env → Py.M Bool) : Prop := PT c.X e (tT c m)
theorem PT.imp {X : Cx} {e : Expr} {t t' : TT} (h : PT X e t) (i : ∀ σ H Q, t' σ H Q → t σ H Q) : PT X e t' := ⟨fun pins s σ H Q I q => h.run pins s σ H Q I (i σ H Q q)⟩
abbrev asT (m : Py.Env → Py.M Py.D) : Py.Env → Py.M Bool := fun r => Py.bnd (m r) fun d => Py.lif (Py.tru d)
theorem tru_some {d : Py.D} {b : Bool} (h : Py.tru d = some b) : d = .bl b := by
  cases d <;> simp [Py.tru] at h
  rw [h]
/-- a test is the value's truth -/
theorem tT.toE {c : Ct} {m : Py.Env → Py.M Py.D} {σ : L2.St} {H : Hp} {Q : Bool → Hp → Prop} {k : Kd} (hk : k = .val ∨ k = .frs) (h : tT c (asT m) σ H Q) : tE c k m σ H (fun x H' => ∃ k, x = .bl k ∧ Q k H') := by
  obtain ⟨Z, η, ω, r, e, h⟩ := h
  refine ⟨Z, η, ω, r, e, ?_⟩
  unfold asT Py.bnd at h
  cases hm : m r ω with
  | stuck => simp only [hm] at h; exact h
  | exc x ω' => simp only [hm] at h; exact h
  | ok d ω' =>
    simp only [hm] at h
    intro v H' Z' η' n q
    cases ht : Py.tru d with
    | none => rw [ht] at h; exact h.elim
    | some b =>
      rw [ht] at h
      obtain rfl := tru_some ht
      have hv : c.View H' Z' η' v (.bl b) := q.view (e.step n.s n.w)
      exact ⟨b, hv.bl, h H' Z' η' n⟩
structure JB (c : Ct) (k : Kd) (e : Expr) (m : Py.Env → Py.M Py.D) : Prop where
  je : JE c k e m
  jt : JT c e (asT m)
theorem JB.of {c : Ct} {k : Kd} (hk : k = .val ∨ k = .frs) {e : Expr} {m : Py.Env → Py.M Py.D} {t : TE} (he : PE c.X e t) (ht : PT c.X e (tTest t)) (i : ∀ σ H Q, tE c k m σ H Q → t σ H Q) : JB c k e m :=
  ⟨PE.imp he i, PT.imp ht fun σ H Q h => i _ _ _ (h.toE hk)⟩
theorem JB.plain {c : Ct} {k : Kd} (hk : k = .val ∨ k = .frs) {e : Expr} {m : Py.Env → Py.M Py.D} (h : JE c k e m) (he : ∀ whole, isTrue e c.X.env whole = (do let v ← whole; standAt e.pos; holding [v] (truthy v))) : JB c k e m :=
  ⟨h, PT.imp (pt_val (show PE c.X e (tE c k m) from h) he) fun σ H Q q => q.toE hk⟩
theorem JB.weaken {c : Ct} {e : Expr} {m : Py.Env → Py.M Py.D} (h : JB c .frs e m) : JB c .val e m := ⟨h.je.weaken, h.jt⟩

/-! ### comparisons -/
section
variable {c : Ct} {k ka kb kc : Kd} {σ : L2.St} {H H1 H2 : Hp} {Q : VK} {v u : V}
def OpB (X : Cx) (f : Value → Value → Sem Value) (c : Ct) (g : Py.D → Py.D → Option Bool) : Prop :=
  ∃ r : R2, OpR X f r ∧ ∀ (x y : V) (d e : Py.D) (b : Bool) (H : Hp) (Z : Addr → Prop) (η : List Addr) (Q : VK), c.View H Z η x d → c.View H Z η y e → g d e = some b → Q (.bl b) H → r x y H Q
theorem opB_eq (hr : c.X.A.units + 65 < cLine) : OpB c.X (compareOp .Eq) c (Py.cmpD .eq) := by
  refine ⟨_, op_eqD (by omega), ?_⟩
  intro x y d e b H Z η Q vd ve hg q
  simp only [Py.cmpD] at hg
  split at hg
  case isFalse => cases hg
  case isTrue hl =>
    cases hg
    rw [Bool.and_eq_true] at hl
    obtain ⟨h1, h2⟩ := vd.dp hl.1
    obtain ⟨h3, h4⟩ := ve.dp (d := e) (by cases e <;> first | exact hl.2 | (exfalso; revert hl; simp [Py.shp]))
    refine ⟨_, _, h1, h3, h2, h4, ?_⟩
    rw [eqv_shS hl.1 hl.2]
    exact q
theorem opB_ne (hr : c.X.A.units + 65 < cLine) : OpB c.X (compareOp .NotEq) c (Py.cmpD .ne) := by
  refine ⟨_, op_neD (by omega), ?_⟩
  intro x y d e b H Z η Q vd ve hg q
  simp only [Py.cmpD] at hg
  split at hg
  case isFalse => cases hg
  case isTrue hl =>
    cases hg
    rw [Bool.and_eq_true] at hl
    obtain ⟨h1, h2⟩ := vd.dp hl.1
    obtain ⟨h3, h4⟩ := ve.dp (d := e) (by cases e <;> first | exact hl.2 | (exfalso; revert hl; simp [Py.shp]))
    refine ⟨_, _, h1, h3, h2, h4, ?_⟩
    rw [eqv_shS hl.1 hl.2]
    exact q
theorem txLt_iff : ∀ (x y : List Nat), Py.txLt x y = decide (x < y)
  | [], [] => by simp [Py.txLt]
  | [], _ :: _ => by simp [Py.txLt]
  | _ :: _, [] => by simp [Py.txLt]
  | x :: xs, y :: ys => by
    rw [Py.txLt, txLt_iff xs ys]
    simp only [List.cons_lt_cons_iff]
    by_cases h : x < y
    · simp [h]
    · rw [if_neg h]
      by_cases h2 : y < x
      · have : ¬ x = y := by omega
        simp [h, h2, this]
      · have : x = y := by omega
        simp [this]
theorem op_gt_str {X : Cx} : OpR X (compareOp .Gt) (fun x y H Q => ∃ i j, x = .str i ∧ y = .str j ∧ Q (.bl (decide (j.cps.toList < i.cps.toList))) H) := by
  intro pins s σ H x y v u Q I rx ry h
  obtain ⟨i, j, rfl, rfl, q⟩ := h
  obtain ⟨t, rfl⟩ := rx
  obtain ⟨t', rfl⟩ := ry
  exact PySem.P.gt_str (fin_bl I q rfl)
theorem opB_lt : OpB c.X (compareOp .Lt) c (Py.cmpD .lt) := by
  refine ⟨_, op_lt.or op_lt_str, ?_⟩
  intro x y d e b H Z η Q vd ve hg q
  cases d <;> cases e <;> (try (simp [Py.cmpD] at hg; done))
  · simp only [Py.cmpD, Option.some.injEq] at hg
    subst hg
    cases vd.int
    cases ve.int
    exact .inl ⟨_, _, rfl, rfl, q⟩
  · simp only [Py.cmpD, Option.some.injEq] at hg
    subst hg
    obtain ⟨rfl, _⟩ := vd.str
    obtain ⟨rfl, _⟩ := ve.str
    rw [txLt_iff] at q
    exact .inr ⟨_, _, rfl, rfl, by simpa using q⟩
theorem opB_gt : OpB c.X (compareOp .Gt) c (Py.cmpD .gt) := by
  refine ⟨_, op_gt.or op_gt_str, ?_⟩
  intro x y d e b H Z η Q vd ve hg q
  cases d <;> cases e <;> (try (simp [Py.cmpD] at hg; done))
  · simp only [Py.cmpD, Option.some.injEq] at hg
    subst hg
    cases vd.int
    cases ve.int
    exact .inl ⟨_, _, rfl, rfl, q⟩
  · simp only [Py.cmpD, Option.some.injEq] at hg
    subst hg
    obtain ⟨rfl, _⟩ := vd.str
    obtain ⟨rfl, _⟩ := ve.str
    rw [txLt_iff] at q
    exact .inr ⟨_, _, rfl, rfl, by simpa using q⟩
theorem opB_le : OpB c.X (compareOp .LtE) c (Py.cmpD .le) := by
  refine ⟨_, op_le, ?_⟩
  intro x y d e b H Z η Q vd ve hg q
  cases d <;> cases e <;> (try (simp [Py.cmpD] at hg; done))
  simp only [Py.cmpD, Option.some.injEq] at hg
  subst hg
  cases vd.int
  cases ve.int
  exact ⟨_, _, rfl, rfl, q⟩
theorem opB_ge : OpB c.X (compareOp .GtE) c (Py.cmpD .ge) := by
  refine ⟨_, op_ge, ?_⟩
  intro x y d e b H Z η Q vd ve hg q
  cases d <;> cases e <;> (try (simp [Py.cmpD] at hg; done))
  simp only [Py.cmpD, Option.some.injEq] at hg
  subst hg
  cases vd.int
  cases ve.int
  exact ⟨_, _, rfl, rfl, q⟩
def rInT (K : PySem.W.Frag) (neg : Bool) : R2 := fun x y H Q => ∃ d ds, Dp K H x d ∧ Dp K H y (.tuple ds) ∧ SeqAt.shaped d = true ∧ SeqAt.shaped (.tuple ds) = true ∧ Q (.bl (if neg then !(ds.any fun z => PyData.eqv z d) else ds.any fun z => PyData.eqv z d)) H
theorem op_inTD {X : Cx} (hu : X.A.units + 65 < cLine) : OpR X (compareOp .In) (rInT X.K false) := by
  intro pins s σ H x y v u Q I rx ry h
  obtain ⟨d, ds, hd, he, sd, se, q⟩ := h
  obtain ⟨as, r1⟩ := Dp.reads I d x v hd rx
  obtain ⟨bs, r2⟩ := Dp.reads I (.tuple ds) y u he ry
  exact SeqAt.in_tuple_reads r2 r1 (SeqAt.canLay_of_shaped se) (SeqAt.canLay_of_shaped sd) (room_in_shaped sd hu) ⟨.bl _, H, I, rfl, q⟩
theorem op_notInTD {X : Cx} (hu : X.A.units + 65 < cLine) : OpR X (compareOp .NotIn) (rInT X.K true) := by
  intro pins s σ H x y v u Q I rx ry h
  obtain ⟨d, ds, hd, he, sd, se, q⟩ := h
  obtain ⟨as, r1⟩ := Dp.reads I d x v hd rx
  obtain ⟨bs, r2⟩ := Dp.reads I (.tuple ds) y u he ry
  exact SeqAt.notIn_tuple_reads r2 r1 (SeqAt.canLay_of_shaped se) (SeqAt.canLay_of_shaped sd) (room_in_shaped sd hu) ⟨.bl _, H, I, rfl, q⟩
theorem any_toPys {x : Py.D} (hx : Py.shp 8 x = true) : ∀ {n : Nat} {ys : List Py.D}, (∀ y ∈ ys, Py.shp n y = true) → ((toPys ys).any fun z => PyData.eqv z (toPy x)) = ys.any fun y => Py.eqD y x
  | _, [], _ => rfl
  | n, y :: ys, h => by
    simp only [toPys, List.any_cons]
    rw [eqv_toPy y x n 8 (h y (by simp)) hx, any_toPys hx fun z hz => h z (by simp [hz])]
theorem in_shp {ys : List Py.D} (h : ys.all (Py.shp 8) = true) : Py.shp 9 (.lst ys) = true := h
theorem View.dp9 {K : PySem.W.Frag} {fA : Ad} {H : Hp} {Z : Addr → Prop} {η : List Addr} {ys : List Py.D} {v : V} (h : View K fA H Z η v (.lst ys)) (hs : ys.all (Py.shp 8) = true) : Dp K H v (.list (toPys ys)) ∧ SeqAt.shaped (.list (toPys ys)) = true := by
  have hs' : ∀ y ∈ ys, Py.shp 8 y = true := by simpa using hs
  obtain ⟨a, vs, rfl, e, rl⟩ := h.lst
  obtain ⟨h1, h2⟩ := RepL.dp _ _ 8 rl hs'
  refine ⟨.lst (.of e) h1, ?_⟩
  have := depth_toPys ys 8 hs'
  show ((PyData.list (toPys ys)).canLay0 && decide ((PyData.list (toPys ys)).depth ≤ 64)) = true
  simp only [PyData.canLay0, PyData.depth, h2, Bool.true_and]
  exact decide_eq_true (by omega)
theorem View.dp9T {K : PySem.W.Frag} {fA : Ad} {H : Hp} {Z : Addr → Prop} {η : List Addr} {ys : List Py.D} {v : V} (h : View K fA H Z η v (.tup ys)) (hs : ys.all (Py.shp 8) = true) : Dp K H v (.tuple (toPys ys)) ∧ SeqAt.shaped (.tuple (toPys ys)) = true := by
  have hs' : ∀ y ∈ ys, Py.shp 8 y = true := by simpa using hs
  obtain ⟨a, vs, rfl, e, rl⟩ := h.tup
  obtain ⟨h1, h2⟩ := RepL.dp _ _ 8 rl hs'
  refine ⟨.tup (.of e) h1, ?_⟩
  have := depth_toPys ys 8 hs'
  show ((PyData.tuple (toPys ys)).canLay0 && decide ((PyData.tuple (toPys ys)).depth ≤ 64)) = true
  simp only [PyData.canLay0, PyData.depth, h2, Bool.true_and]
  exact decide_eq_true (by omega)
theorem shS_of {d : Py.D} (h : Py.shp 8 d = true) : Py.shS d = true := by
  cases d <;> first | exact h | (exfalso; revert h; simp [Py.shp])
theorem opB_in (hr : c.X.A.units + 65 < cLine) : OpB c.X (compareOp .In) c (Py.cmpD .inn) := by
  refine ⟨_, (op_inD hr).or ((op_inTD hr).or op_in_sign), ?_⟩
  intro x y d e b H Z η Q vd ve hg q
  simp only [Py.cmpD] at hg
  cases e <;> (try (simp [Py.inD] at hg; done))
  case lst ys =>
    simp only [Py.inD] at hg
    split at hg
    case isFalse => cases hg
    case isTrue hl =>
      cases hg
      rw [Bool.and_eq_true] at hl
      obtain ⟨h1, h2⟩ := vd.dp (shS_of hl.1)
      obtain ⟨h3, h4⟩ := ve.dp9 hl.2
      exact .inl ⟨_, _, h1, h3, h2, h4, by rw [any_toPys hl.1 (n := 8) (by simpa using hl.2)]; exact q⟩
  case tup ys =>
    simp only [Py.inD] at hg
    split at hg
    case isFalse => cases hg
    case isTrue hl =>
      cases hg
      rw [Bool.and_eq_true] at hl
      obtain ⟨h1, h2⟩ := vd.dp (shS_of hl.1)
      obtain ⟨h3, h4⟩ := ve.dp9T hl.2
      exact .inr (.inl ⟨_, _, h1, h3, h2, h4, by rw [if_neg (by decide), any_toPys hl.1 (n := 8) (by simpa using hl.2)]; exact q⟩)
  case str t =>
    simp only [Py.inD] at hg
    split at hg
    case h_2 => cases hg
    case h_1 ch =>
      cases hg
      obtain ⟨rfl, _⟩ := vd.str
      obtain ⟨rfl, _⟩ := ve.str
      refine .inr (.inr ⟨ch, _, rfl, rfl, ?_⟩)
      rw [List.contains_eq_mem] at q
      simpa using q
theorem opB_nin (hr : c.X.A.units + 65 < cLine) : OpB c.X (compareOp .NotIn) c (Py.cmpD .nin) := by
  refine ⟨_, (op_notInD hr).or ((op_notInTD hr).or op_notIn_sign), ?_⟩
  intro x y d e b H Z η Q vd ve hg q
  simp only [Py.cmpD, Option.map_eq_some_iff] at hg
  obtain ⟨b', hg, rfl⟩ := hg
  cases e <;> (try (simp [Py.inD] at hg; done))
  case lst ys =>
    simp only [Py.inD] at hg
    split at hg
    case isFalse => cases hg
    case isTrue hl =>
      cases hg
      rw [Bool.and_eq_true] at hl
      obtain ⟨h1, h2⟩ := vd.dp (shS_of hl.1)
      obtain ⟨h3, h4⟩ := ve.dp9 hl.2
      exact .inl ⟨_, _, h1, h3, h2, h4, by rw [any_toPys hl.1 (n := 8) (by simpa using hl.2)]; exact q⟩
  case tup ys =>
    simp only [Py.inD] at hg
    split at hg
    case isFalse => cases hg
    case isTrue hl =>
      cases hg
      rw [Bool.and_eq_true] at hl
      obtain ⟨h1, h2⟩ := vd.dp (shS_of hl.1)
      obtain ⟨h3, h4⟩ := ve.dp9T hl.2
      exact .inr (.inl ⟨_, _, h1, h3, h2, h4, by rw [if_pos rfl, any_toPys hl.1 (n := 8) (by simpa using hl.2)]; exact q⟩)
  case str t =>
    simp only [Py.inD] at hg
    split at hg
    case h_2 => cases hg
    case h_1 ch =>
      cases hg
      obtain ⟨rfl, _⟩ := vd.str
      obtain ⟨rfl, _⟩ := ve.str
      refine .inr (.inr ⟨ch, _, rfl, rfl, ?_⟩)
      rw [List.contains_eq_mem] at q
      simpa using q
theorem opB_cmp (hr : c.X.A.units + 65 < cLine) (o : Py.Cop) : OpB c.X (compareOp (copOf o)) c (Py.cmpD o) := by
  cases o
  · exact opB_eq hr
  · exact opB_ne hr
  · exact opB_lt
  · exact opB_le
  · exact opB_gt
  · exact opB_ge
  · exact opB_in hr
  · exact opB_nin hr
/-- a comparison's end behind its two operands -/
theorem Mid2.cmp {g : Py.D → Py.D → Option Bool} (h : Mid2 c .val ka kb σ H Q (fun _ x y => Py.lif ((g x y).map .bl)) v u H1) {r : R2}
    (hr : ∀ (x y : V) (d e : Py.D) (b : Bool) (H : Hp) (Z : Addr → Prop) (η : List Addr) (Q : VK), c.View H Z η x d → c.View H Z η y e → g d e = some b → Q (.bl b) H → r x y H Q) : r v u H1 Q := by
  obtain ⟨Z, η, Z1, η1, ω1, r, d, e, z, en, s, vd, ve, hg, q⟩ := h.pure (g := fun x y => (g x y).map .bl)
  obtain ⟨b, hb, rfl⟩ := Option.map_eq_some_iff.mp hg
  exact hr v u d e b H1 Z1 η1 Q vd ve hb (q _ _ Z1 η1 ⟨s, en.w⟩ (.bl b))
theorem jb_cmp {op : CmpOp} {a b : Expr} {pos : Pos} {ma mb : Py.Env → Py.M Py.D} {g : Py.D → Py.D → Option Bool} (ho : OpB c.X (compareOp op) c g) (ha : JE c ka a ma) (hb : JE c kb b mb) (hm : behindInMarks op b = false) :
    JB c .val (.Compare a [op] [b] pos) (fun r => Py.bnd (ma r) fun x => Py.bnd (mb r) fun y => Py.lif ((g x y).map .bl)) := by
  obtain ⟨r, h1, h2⟩ := ho
  exact .of (.inl rfl) (pe_cmpR h1 ha hb hm) (pt_cmpR h1 ha hb hm) fun σ H Q h => tE.mono h.bnd fun x H1 hx => tE.mono hx.bnd fun y H2 hy => hy.cmp h2
/-- the middle of a chain -/
theorem Mid2.link {g : Py.D → Py.D → Option Bool} {f : Py.Env → Py.D → Py.M Py.D} (h : Mid2 c .val ka kb σ H Q (fun r x y => Py.bnd (Py.lif (g x y)) fun k => if k = true then f r y else Py.ret (.bl false)) v u H1) {r : R2}
    (hr : ∀ (x y : V) (d e : Py.D) (b : Bool) (H : Hp) (Z : Addr → Prop) (η : List Addr) (Q : VK), c.View H Z η x d → c.View H Z η y e → g d e = some b → Q (.bl b) H → r x y H Q)
    {P : V → Hp → Prop} (hp : ∀ k, (if k = true then Mid c .val kb σ H Q f u H1 else Q (.bl false) H1) → P (.bl k) H1) : r v u H1 P := by
  obtain ⟨Z, η, Z1, η1, ω1, r, d, e, en, s, vd, ve, q⟩ := h
  replace q : post c .val σ r H Z η Q (Py.bnd (Py.lif (g d e)) (fun k => if k = true then f r e else Py.ret (.bl false)) ω1) := q
  cases hg : g d e with
  | none => rw [hg] at q; exact q.elim
  | some b =>
    rw [hg] at q
    refine hr v u d e b H1 Z1 η1 _ (vd.view en) (ve.view en) hg (hp b ?_)
    cases b with
    | true =>
      rw [if_pos rfl]
      exact ⟨Z, η, Z1, η1, ω1, r, e, en, s, ve, q⟩
    | false =>
      rw [if_neg (by decide)]
      exact q _ _ Z1 η1 ⟨s, en.w⟩ (.bl false)
theorem jb_cmp2 {o1 o2 : CmpOp} {a b d : Expr} {pos : Pos} {ma mb md : Py.Env → Py.M Py.D} {g1 g2 : Py.D → Py.D → Option Bool} (h1 : OpB c.X (compareOp o1) c g1) (h2 : OpB c.X (compareOp o2) c g2) (ha : JE c ka a ma) (hb : JE c kb b mb) (hd : JE c kc d md) (hm : lastMarks [o1, o2] [b, d] = false) :
    JB c .val (.Compare a [o1, o2] [b, d] pos) (fun r => Py.bnd (ma r) fun x => Py.bnd (mb r) fun y => Py.bnd (Py.lif (g1 x y)) fun k => if k = true then Py.bnd (md r) fun z => Py.lif ((g2 y z).map .bl) else Py.ret (.bl false)) := by
  obtain ⟨r1, h1, q1⟩ := h1
  obtain ⟨r2, h2, q2⟩ := h2
  refine .of (.inl rfl) (pe_chain h1 h2 ha hb hd hm) (pt_chain h1 h2 ha hb hd hm) fun σ H Q h => tE.mono h.bnd fun x H1 hx => tE.mono hx.bnd fun y H2 hy => ?_
  refine Mid2.link (f := fun r y => Py.bnd (md r) fun z => Py.lif ((g2 y z).map .bl)) hy q1 fun k hk => ⟨k, rfl, ?_⟩
  cases k with
  | true => exact tE.mono (Mid.bnd (kb := kc) hk) fun z H4 hz => hz.cmp q2
  | false => exact hk
/-- a op1 b op2 c op3 d -/
def tChain3 (r r' r'' : R2) (ta tb tc td : TE) : TE := fun σ H Q => ta σ H fun x H1 => tb σ H1 fun y H2 => r x y H2 fun z H3 => ∃ k, z = .bl k ∧
  (if k = true then tc σ H3 fun w' H4 => r' y w' H4 fun z H5 => ∃ k, z = .bl k ∧ (if k = true then td σ H5 fun u H6 => r'' w' u H6 Q else Q (.bl false) H5) else Q (.bl false) H3)
section
variable {X : Cx} {a b d f : Expr} {ta tb td tf : TE} {pos : Pos}
theorem pe_chain3 {op op' op'' : CmpOp} {r r' r'' : R2} (ho : OpR X (compareOp op) r) (ho' : OpR X (compareOp op') r') (ho'' : OpR X (compareOp op'') r'') (ha : PE X a ta) (hb : PE X b tb) (hc : PE X d td) (hd : PE X f tf)
    (hm : lastMarks [op, op', op''] [b, d, f] = false) : PE X (.Compare a [op, op', op''] [b, d, f] pos) (tChain3 r r' r'' ta tb td tf) := by
  refine ⟨fun pins s σ H Q I h => ?_⟩
  refine Compare_chain (thn (ha.run pins s σ H _ I h) fun v s1 ⟨x, H1, I1, r1, q1⟩ => chain_link (thn (hb.run pins s1 σ H1 _ I1 q1) fun u s2 ⟨y, H2, I2, r2, q2⟩ =>
    thn (ho pins s2 σ H2 x y v u _ I2 r1 r2 q2) fun d s3 ⟨z, H3, I3, r3, k, e, q3⟩ => ?_)) hm
  subst e
  cases r3
  refine wpAny_truthy_bool ?_
  cases k with
  | false => exact ite_ff ⟨.bl false, H3, I3, rfl, q3⟩
  | true =>
    refine ite_tt (chain_link (thn (hc.run pins s3 σ H3 _ I3 q3) fun w' s4 ⟨z', H4, I4, r4, q4⟩ => thn (ho' pins s4 σ H4 y z' u w' _ I4 r2 r4 q4) fun d s5 ⟨z5, H5, I5, r5, k, e, q5⟩ => ?_))
    subst e
    cases r5
    refine wpAny_truthy_bool ?_
    cases k with
    | false => exact ite_ff ⟨.bl false, H5, I5, rfl, q5⟩
    | true => exact ite_tt (chain_last (thn (hd.run pins s5 σ H5 _ I5 q5) fun w6 s6 ⟨z6, H6, I6, r6, q6⟩ => ho'' pins s6 σ H6 z' z6 w' w6 Q I6 r4 r6 q6))
theorem pt_chain3 {op op' op'' : CmpOp} {r r' r'' : R2} (ho : OpR X (compareOp op) r) (ho' : OpR X (compareOp op') r') (ho'' : OpR X (compareOp op'') r'') (ha : PE X a ta) (hb : PE X b tb) (hc : PE X d td) (hd : PE X f tf)
    (hm : lastMarks [op, op', op''] [b, d, f] = false) : PT X (.Compare a [op, op', op''] [b, d, f] pos) (tTest (tChain3 r r' r'' ta tb td tf)) := by
  refine ⟨fun pins s σ H Q I h => ?_⟩
  refine isTrue_chain (thn (ha.run pins s σ H _ I h) fun v s1 ⟨x, H1, I1, r1, q1⟩ => test_link (thn (hb.run pins s1 σ H1 _ I1 q1) fun u s2 ⟨y, H2, I2, r2, q2⟩ =>
    thn (ho pins s2 σ H2 x y v u _ I2 r1 r2 q2) fun d s3 ⟨z, H3, I3, r3, k, e, q3⟩ => ?_)) hm
  subst e
  cases r3
  refine wpAny_truthy_bool ?_
  cases k with
  | false =>
    obtain ⟨k', e', q'⟩ := q3
    cases e'
    exact ite_ff ⟨H3, I3, q'⟩
  | true =>
    refine ite_tt (test_link (thn (hc.run pins s3 σ H3 _ I3 q3) fun w' s4 ⟨z', H4, I4, r4, q4⟩ => thn (ho' pins s4 σ H4 y z' u w' _ I4 r2 r4 q4) fun d' s5 ⟨z2, H5, I5, r5, k2, e2, q5⟩ => ?_))
    subst e2
    cases r5
    refine wpAny_truthy_bool ?_
    cases k2 with
    | false =>
      obtain ⟨k', e', q'⟩ := q5
      cases e'
      exact ite_ff ⟨H5, I5, q'⟩
    | true =>
      refine ite_tt (test_last (thn (hd.run pins s5 σ H5 _ I5 q5) fun w6 s6 ⟨z6, H6, I6, r6, q6⟩ => thn (ho'' pins s6 σ H6 z' z6 w' w6 _ I6 r4 r6 q6) fun d7 s7 ⟨z7, H7, I7, r7, k7, e7, q7⟩ => ?_))
      subst e7
      cases r7
      exact wpAny_truthy_bool ⟨H7, I7, q7⟩
end
theorem jb_cmp3 {kd : Kd} {o1 o2 o3 : CmpOp} {a b d f : Expr} {pos : Pos} {ma mb md mf : Py.Env → Py.M Py.D} {g1 g2 g3 : Py.D → Py.D → Option Bool} (h1 : OpB c.X (compareOp o1) c g1) (h2 : OpB c.X (compareOp o2) c g2) (h3 : OpB c.X (compareOp o3) c g3)
    (ha : JE c ka a ma) (hb : JE c kb b mb) (hd : JE c kc d md) (hf : JE c kd f mf) (hm : lastMarks [o1, o2, o3] [b, d, f] = false) :
    JB c .val (.Compare a [o1, o2, o3] [b, d, f] pos) (fun r => Py.bnd (ma r) fun x => Py.bnd (mb r) fun y => Py.bnd (Py.lif (g1 x y)) fun k => if k = true then
      Py.bnd (md r) fun z => Py.bnd (Py.lif (g2 y z)) fun k => if k = true then Py.bnd (mf r) fun u => Py.lif ((g3 z u).map .bl) else Py.ret (.bl false) else Py.ret (.bl false)) := by
  obtain ⟨r1, h1, q1⟩ := h1
  obtain ⟨r2, h2, q2⟩ := h2
  obtain ⟨r3, h3, q3⟩ := h3
  refine .of (.inl rfl) (pe_chain3 h1 h2 h3 ha hb hd hf hm) (pt_chain3 h1 h2 h3 ha hb hd hf hm) fun σ H Q h => tE.mono h.bnd fun x H1 hx => tE.mono hx.bnd fun y H2 hy => ?_
  refine Mid2.link (f := fun r y => Py.bnd (md r) fun z => Py.bnd (Py.lif (g2 y z)) fun k => if k = true then Py.bnd (mf r) fun u => Py.lif ((g3 z u).map .bl) else Py.ret (.bl false)) hy q1 fun k hk => ⟨k, rfl, ?_⟩
  cases k with
  | false => exact hk
  | true =>
    refine tE.mono (Mid.bnd (kb := kc) hk) fun z H4 hz => ?_
    refine Mid2.link (f := fun r z => Py.bnd (mf r) fun u => Py.lif ((g3 z u).map .bl)) hz q2 fun k hk => ⟨k, rfl, ?_⟩
    cases k with
    | false => exact hk
    | true => exact tE.mono (Mid.bnd (kb := kd) hk) fun u H6 hu => hu.cmp q3
end
end PyS
end
section
namespace PyS
open PySem PySem.Spec PyProof.Rows L2
section
variable {c : Ct} {k ka kb kc : Kd} {σ : L2.St} {H H1 H2 : Hp} {Q : VK} {v u : V}
/-! ### leaves -/
theorem tE.ret {f : Py.Env → Py.D} (hk : k = .val ∨ k = .frs) (h : tE c k (fun r => Py.ret (f r)) σ H Q) : ∃ Z η ω r, c.Env σ r H Z η ω ∧ ∀ v H' Z' η', c.Nx H Z η H' Z' η' ω → ResR c k r σ H H' Z' η' v (f r) → Q v H' := by
  obtain ⟨Z, η, ω, r, e, h⟩ := h
  exact ⟨Z, η, ω, r, e, h⟩
theorem tE.const {d : Py.D} {v : V} (h : tE c .val (fun _ => Py.ret d) σ H Q) (hr : ∀ Z η, c.Rep H Z η v d) : Q v H := by
  obtain ⟨Z, η, ω, r, e, h⟩ := h
  exact h v H Z η ⟨.refl, e.w⟩ (hr Z η)
theorem jb_int {i : Int} {j : Nat} {pos : Pos} : JB c .val (.Constant (.int i) j pos) (fun _ => Py.ret (.int i)) :=
  .plain (.inl rfl) (PE.imp pe_int fun σ H Q h => h.const fun _ _ => .int i) (fun _ => rfl)
theorem jb_bl {b : Bool} {j : Nat} {pos : Pos} : JB c .val (.Constant (.bool b) j pos) (fun _ => Py.ret (.bl b)) :=
  .plain (.inl rfl) (PE.imp pe_bl fun σ H Q h => h.const fun _ _ => .bl b) (fun _ => rfl)
theorem jb_non {j : Nat} {pos : Pos} : JB c .val (.Constant .none j pos) (fun _ => Py.ret .non) :=
  .plain (.inl rfl) (PE.imp pe_non fun σ H Q h => h.const fun _ _ => .non) (fun _ => rfl)
theorem jb_str {x : Str} {cs : List Nat} {j : Nat} {pos : Pos} (hx : x.cps.toList = cs) (hc : (cs.all fun c => decide (c < 1114112)) = true) : JB c .val (.Constant (.str x) j pos) (fun _ => Py.ret (.str cs)) :=
  .plain (.inl rfl) (PE.imp pe_str fun σ H Q h => h.const fun _ _ => by
    have e : x = ⟨cs.toArray⟩ := by rw [← hx, str_of]
    rw [e]
    exact .str _ hc) (fun _ => rfl)
theorem get_v {r : Py.Env} {i : Nat} {d : Py.D} (h : (Py.Env.get r i).val = some d) : r[i]? = some (.v d) := by
  unfold Py.Env.get at h
  rw [List.getD_eq_getElem?_getD] at h
  cases hr : r[i]? with
  | none => rw [hr] at h; cases h
  | some s =>
    rw [hr] at h
    cases s <;> simp [Py.Slot.val] at h
    rw [h]
theorem get_o {r : Py.Env} {i : Nat} {d : List Py.D} (h : (Py.Env.get r i).own = some d) : r[i]? = some (.o d) := by
  unfold Py.Env.get at h
  rw [List.getD_eq_getElem?_getD] at h
  cases hr : r[i]? with
  | none => rw [hr] at h; cases h
  | some s =>
    rw [hr] at h
    cases s <;> simp [Py.Slot.own] at h
    rw [h]
theorem jb_var {i : Nat} {x : Str} {pos : Pos} (hN : c.X.N[i]? = some x) (hv : Vis c.X.env.scope x) (hd : (x == ("__debug__" : Str)) = false) (hcd : (x == ("__classdict__" : Str)) = false) : JB c .val (.Name x pos) (fun r => Py.lif (r.get i).val) := by
  refine .plain (.inl rfl) (PE.imp (pe_var hN hv hd hcd) fun σ H Q h => ?_) (fun _ => rfl)
  obtain ⟨Z, η, ω, r, e, h⟩ := h
  replace h : post c .val σ r H Z η Q (Py.lif (Py.Env.get r i).val ω) := h
  cases hg : (Py.Env.get r i).val with
  | none => rw [hg] at h; exact h.elim
  | some d =>
    rw [hg] at h
    obtain ⟨v, h1, h2⟩ := e.sl.val i d (get_v hg)
    exact ⟨v, h1, h v H Z η ⟨.refl, e.w⟩ h2⟩
theorem je_peek {i : Nat} {x : Str} {pos : Pos} (hN : c.X.N[i]? = some x) (hv : Vis c.X.env.scope x) (hd : (x == ("__debug__" : Str)) = false) (hcd : (x == ("__classdict__" : Str)) = false) : JE c (.pk i) (.Name x pos) (fun r => Py.lif ((r.get i).own.map .lst)) := by
  refine PE.imp (pe_var hN hv hd hcd) fun σ H Q h => ?_
  obtain ⟨Z, η, ω, r, e, h⟩ := h
  replace h : post c (.pk i) σ r H Z η Q (Py.lif ((Py.Env.get r i).own.map .lst) ω) := h
  cases hg : (Py.Env.get r i).own with
  | none => rw [hg] at h; exact h.elim
  | some d =>
    rw [hg] at h
    obtain ⟨p, h1, h2⟩ := e.sl.own i d (get_o hg)
    exact ⟨.ref p, h1, h (.ref p) H Z η ⟨.refl, e.w⟩ ⟨h1, d, get_o hg, rfl⟩⟩
/-- a name of the top that holds an int, a text, a def -/
theorem jb_glob {x : Str} {v : V} {u : Value} {d : Py.D} {pos : Pos} (hg : Gl c.X x) (hm : c.X.mg x = some u) (r : RelV v u) (hd : (x == ("__debug__" : Str)) = false) (hr : ∀ H Z η, c.Rep H Z η v d) : JB c .val (.Name x pos) (fun _ => Py.ret d) :=
  .plain (.inl rfl) (PE.imp (pe_glob hg hm r hd) fun σ H Q h => h.const fun Z η => hr H Z η) (fun _ => rfl)

/-! ### one operand -/
theorem jb_neg {a : Expr} {pos : Pos} {m : Py.Env → Py.M Py.D} (ha : JE c ka a m) : JB c .val (.UnaryOp .USub a pos) (fun r => Py.bnd (m r) fun x => Py.lif ((Py.asInt x).map fun i => .int (-i))) := by
  refine .plain (.inl rfl) (PE.imp (pe_un un_neg ha) fun σ H Q h => tE.mono h.bnd fun x H1 hx => ?_) (fun _ => rfl)
  obtain ⟨Z, η, Z1, η1, ω1, r, d, y, e, s, vd, hg, q⟩ := hx.pure (g := fun x => (Py.asInt x).map fun i => .int (-i))
  cases d <;> simp [Py.asInt] at hg
  subst hg
  cases vd.int
  exact ⟨_, rfl, q _ _ Z1 η1 ⟨s, e.w⟩ (.int _)⟩
/-! ### and, or, not, a if t else b -/
theorem post.rebase {r : Py.Env} {Z Z1 : Addr → Prop} {η η1 : List Addr} {res : Py.Res Py.D} (h : post c k σ r H Z η Q res) (s : Step H Z η H1 Z1 η1) : post c k σ r H1 Z1 η1 Q res := by
  cases res with
  | stuck => exact h
  | exc x ω' => exact fun H' Z' η' a n ha => h H' Z' η' a ⟨s.trans n.s, n.w⟩ ha
  | ok d ω' => exact fun v H' Z' η' n q => h v H' Z' η' ⟨s.trans n.s, n.w⟩ (q.base s)
theorem postB.rebase {Q : Bool → Hp → Prop} {Z Z1 : Addr → Prop} {η η1 : List Addr} {res : Py.Res Bool} (h : postB c σ H Z η Q res) (s : Step H Z η H1 Z1 η1) : postB c σ H1 Z1 η1 Q res := by
  cases res with
  | stuck => exact h
  | exc x ω' => exact fun H' Z' η' a n ha => h H' Z' η' a ⟨s.trans n.s, n.w⟩ ha
  | ok d ω' => exact fun H' Z' η' n => h H' Z' η' ⟨s.trans n.s, n.w⟩
theorem tT.bnd {Q : Bool → Hp → Prop} {mk : Py.Env → Py.M Bool} {f : Py.Env → Bool → Py.M Bool} (h : tT c (fun r => Py.bnd (mk r) (f r)) σ H Q) : tT c mk σ H (fun k H1 => tT c (fun r => f r k) σ H1 Q) := by
  obtain ⟨Z, η, ω, r, e, h⟩ := h
  refine ⟨Z, η, ω, r, e, ?_⟩
  unfold Py.bnd at h
  cases hm : mk r ω with
  | stuck => simp only [hm] at h; exact h
  | exc x ω' => simp only [hm] at h; exact h
  | ok d ω' =>
    simp only [hm] at h
    exact fun H1 Z1 η1 n => ⟨Z1, η1, ω', r, e.step n.s n.w, h.rebase n.s⟩
theorem tE.bndB {mk : Py.Env → Py.M Bool} {f : Py.Env → Bool → Py.M Py.D} (h : tE c k (fun r => Py.bnd (mk r) (f r)) σ H Q) : tT c mk σ H (fun b H1 => tE c k (fun r => f r b) σ H1 Q) := by
  obtain ⟨Z, η, ω, r, e, h⟩ := h
  refine ⟨Z, η, ω, r, e, ?_⟩
  unfold Py.bnd at h
  cases hm : mk r ω with
  | stuck => simp only [hm] at h; exact h
  | exc x ω' => simp only [hm] at h; exact h
  | ok d ω' =>
    simp only [hm] at h
    exact fun H1 Z1 η1 n => ⟨Z1, η1, ω', r, e.step n.s n.w, h.rebase n.s⟩
theorem tT.mono {Q Q' : Bool → Hp → Prop} {m : Py.Env → Py.M Bool} (h : tT c m σ H Q) (i : ∀ b H1, Q b H1 → Q' b H1) : tT c m σ H Q' := by
  obtain ⟨Z, η, ω, r, e, h⟩ := h
  refine ⟨Z, η, ω, r, e, ?_⟩
  cases hm : m r ω with
  | stuck => rw [hm] at h; exact h
  | exc x ω' => rw [hm] at h; exact h
  | ok d ω' => rw [hm] at h; exact fun H' Z' η' n => i _ _ (h H' Z' η' n)
theorem tT.ret {Q : Bool → Hp → Prop} {b : Bool} (h : tT c (fun _ => Py.ret b) σ H Q) : Q b H := by
  obtain ⟨Z, η, ω, r, e, h⟩ := h
  exact h H Z η ⟨.refl, e.w⟩
theorem tE.to {k : Kd} {m m' : Py.Env → Py.M Py.D} (e : m = m') (h : tE c k m σ H Q) : tE c k m' σ H Q := e ▸ h
theorem jb_not {a : Expr} {pos : Pos} {m : Py.Env → Py.M Py.D} (ha : JB c .val a m) : JB c .val (.UnaryOp .Not a pos) (fun r => Py.bnd (m r) fun x => Py.lif ((Py.tru x).map fun b => .bl (!b))) := by
  refine ⟨PE.imp (pe_not ha.je) fun σ H Q h => tE.mono h.bnd fun x H1 hx => ?_, PT.imp (pt_not ha.jt) fun σ H Q h => ?_⟩
  · obtain ⟨Z, η, Z1, η1, ω1, r, d, y, e, s, vd, hg, q⟩ := hx.pure (g := fun x => (Py.tru x).map fun b => .bl (!b))
    cases d <;> simp [Py.tru] at hg
    subst hg
    cases vd.bl
    exact ⟨_, rfl, q _ _ Z1 η1 ⟨s, e.w⟩ (.bl _)⟩
  · have e : (asT fun r => Py.bnd (m r) fun x => Py.lif ((Py.tru x).map fun b => Py.D.bl (!b))) = fun r => Py.bnd (asT m r) fun k => Py.ret (!k) := by
      funext r
      simp only [asT, Py.bnd_bnd]
      congr 1
      funext x
      cases x <;> rfl
    rw [e] at h
    exact tT.mono h.bnd fun b H1 h => tT.ret h
structure JW (c : Ct) (op : BoolOp) (es : List Expr) (m : Py.Env → Py.M Py.D) : Prop where
  je : ∀ pos, JE c .val (.BoolOp op es pos) m
  pw : ∀ pos, PW c.X (.BoolOp op es pos) (tT c (asT m))
theorem JW.jb {op : BoolOp} {es : List Expr} {m : Py.Env → Py.M Py.D} (h : JW c op es m) (pos : Pos) : JB c .val (.BoolOp op es pos) m := ⟨h.je pos, (h.pw pos).pt⟩
theorem JW.one {op : BoolOp} {a : Expr} {m : Py.Env → Py.M Py.D} (ha : JB c .val a m) : JW c op [a] m := ⟨fun _ => pe_one ha.je, fun _ => by
  cases op with
  | And => exact pw_and1 ha.jt
  | Or => exact pw_or1 ha.jt⟩
theorem PW.imp {X : Cx} {e : Expr} {t t' : TT} (h : PW X e t) (i : ∀ σ H Q, t' σ H Q → t σ H Q) : PW X e t' := ⟨fun whole pins s σ H Q I q => h.run whole pins s σ H Q I (i σ H Q q)⟩
/-- a first operand's truth, in a value's place -/
theorem asT_if {ma m1 m2 : Py.Env → Py.M Py.D} : (asT fun r => Py.bnd (ma r) fun x => Py.bnd (Py.lif (Py.tru x)) fun k => if k = true then m1 r else m2 r) = fun r => Py.bnd (asT ma r) fun k => if k = true then asT m1 r else asT m2 r := by
  funext r
  simp only [asT, Py.bnd_bnd]
  congr 1
  funext x
  cases x <;> try rfl
  rename_i b
  cases b <;> rfl
theorem tT.if {ma m1 m2 : Py.Env → Py.M Py.D} {Q : Bool → Hp → Prop} (h : tT c (asT fun r => Py.bnd (ma r) fun x => Py.bnd (Py.lif (Py.tru x)) fun k => if k = true then m1 r else m2 r) σ H Q) :
    tT c (asT ma) σ H (fun k H1 => if k = true then tT c (asT m1) σ H1 Q else tT c (asT m2) σ H1 Q) := by
  rw [asT_if] at h
  refine tT.mono h.bnd fun b H1 h => ?_
  cases b with
  | true => exact h
  | false => exact h
theorem tE.if {ma m1 m2 : Py.Env → Py.M Py.D} (h : tE c k (fun r => Py.bnd (ma r) fun x => Py.bnd (Py.lif (Py.tru x)) fun k => if k = true then m1 r else m2 r) σ H Q) :
    tT c (asT ma) σ H (fun b H1 => if b = true then tE c k m1 σ H1 Q else tE c k m2 σ H1 Q) := by
  have e : (fun r => Py.bnd (ma r) fun x => Py.bnd (Py.lif (Py.tru x)) fun k => if k = true then m1 r else m2 r) = fun r => Py.bnd (asT ma r) fun k => if k = true then m1 r else m2 r := by
    funext r
    simp only [asT, Py.bnd_bnd]
  rw [e] at h
  refine tT.mono h.bndB fun b H1 h => ?_
  cases b with
  | true => exact h
  | false => exact h
theorem asT_bl {b : Bool} : (asT fun _ => Py.ret (Py.D.bl b)) = fun _ => Py.ret b := by
  funext r
  rfl
theorem JW.and {a b : Expr} {rest : List Expr} {ma mb : Py.Env → Py.M Py.D} (ha : JB c .val a ma) (hb : JW c .And (b :: rest) mb) :
    JW c .And (a :: b :: rest) (fun r => Py.bnd (ma r) fun x => Py.bnd (Py.lif (Py.tru x)) fun k => if k = true then mb r else Py.ret (.bl false)) := by
  refine ⟨fun pos => PE.imp (pe_and ha.je (hb.je pos)) fun σ H Q h => ?_, fun pos => PW.imp (pw_and ha.jt (hb.pw pos)) fun σ H Q h => ?_⟩
  · refine tE.mono (h.if.toE (.inl rfl)) fun x H1 ⟨b, e, h⟩ => ⟨b, e, ?_⟩
    cases b with
    | true => exact h
    | false => exact tE.const h fun _ _ => .bl false
  · refine tT.mono h.if fun b H1 h => ?_
    cases b with
    | true => exact h
    | false =>
      replace h : tT c (asT fun _ => Py.ret (Py.D.bl false)) σ H1 Q := h
      rw [asT_bl] at h
      exact h.ret
theorem JW.or {a b : Expr} {rest : List Expr} {ma mb : Py.Env → Py.M Py.D} (ha : JB c .val a ma) (hb : JW c .Or (b :: rest) mb) :
    JW c .Or (a :: b :: rest) (fun r => Py.bnd (ma r) fun x => Py.bnd (Py.lif (Py.tru x)) fun k => if k = true then Py.ret (.bl true) else mb r) := by
  refine ⟨fun pos => PE.imp (pe_or ha.je (hb.je pos)) fun σ H Q h => ?_, fun pos => PW.imp (pw_or ha.jt (hb.pw pos)) fun σ H Q h => ?_⟩
  · refine tE.mono (h.if.toE (.inl rfl)) fun x H1 ⟨b, e, h⟩ => ⟨b, e, ?_⟩
    cases b with
    | true => exact tE.const h fun _ _ => .bl true
    | false => exact h
  · refine tT.mono h.if fun b H1 h => ?_
    cases b with
    | true =>
      replace h : tT c (asT fun _ => Py.ret (Py.D.bl true)) σ H1 Q := h
      rw [asT_bl] at h
      exact h.ret
    | false => exact h
theorem pt_ifExp {X : Cx} {t a b : Expr} {pos : Pos} {tt ta tb : TT} (ht : PT X t tt) (ha : PT X a ta) (hb : PT X b tb) : PT X (.IfExp t a b pos) (fun σ H Q => tt σ H fun k H1 => if k = true then ta σ H1 Q else tb σ H1 Q) := by
  refine ⟨fun pins s σ H Q I h => ?_⟩
  show wpAny (model X.prog X.w) X.A (do if ← isTrue t X.env (eval t X.env) then isTrue a X.env (eval a X.env) else isTrue b X.env (eval b X.env)) _ _ s
  refine wpAny_bind (thn (ht.run pins s σ H _ I h) fun k s1 ⟨H1, I1, q1⟩ => ?_)
  cases k with
  | true => exact ha.run pins s1 σ H1 Q I1 q1
  | false => exact hb.run pins s1 σ H1 Q I1 q1
theorem jb_ite {t a b : Expr} {pos : Pos} {mt ma mb : Py.Env → Py.M Py.D} (ht : JB c .val t mt) (ha : JB c k a ma) (hb : JB c k b mb) :
    JB c k (.IfExp t a b pos) (fun r => Py.bnd (mt r) fun x => Py.bnd (Py.lif (Py.tru x)) fun q => if q = true then ma r else mb r) :=
  ⟨PE.imp (pe_ifExp ht.jt ha.je hb.je) fun σ H Q h => h.if, PT.imp (pt_ifExp ht.jt ha.jt hb.jt) fun σ H Q h => h.if⟩
/-! ### is, is not -/
theorem jb_isC {n : Bool} {a b : Expr} {d : Py.D} {pos : Pos} {m : Py.Env → Py.M Py.D} (ha : JE c ka a m) (hb : (d = .non ∧ ∃ j p, b = .Constant .none j p) ∨ ∃ k j p, d = .bl k ∧ b = .Constant (.bool k) j p) :
    JB c .val (.Compare a [if n = true then .IsNot else .Is] [b] pos) (fun r => Py.bnd (m r) fun x => Py.lif (Py.isCD n d x)) := by
  have view_non : ∀ {x : V} {y : Py.D} {H : Hp} {Z : Addr → Prop} {η : List Addr}, c.View H Z η x y → y ≠ .non → x ≠ .non := fun {x y H Z η} hv hn e => by
    subst e
    cases hv with
    | of h => cases h; exact hn rfl
  rcases hb with ⟨rfl, j, p, rfl⟩ | ⟨kk, j, p, rfl, rfl⟩
  · cases n with
    | false =>
      refine .of (.inl rfl) (pe_cmpR op_isN ha pe_non (by rfl)) (pt_cmpR op_isN ha pe_non (by rfl)) fun σ H Q h => tE.mono h.bnd fun x H1 hx => ?_
      obtain ⟨Z, η, Z1, η1, ω1, r, d, y, e, s, vd, hg, q⟩ := hx.pure
      refine ⟨rfl, ?_⟩
      cases d with
      | non =>
        cases vd.non
        obtain rfl := Option.some.inj hg
        exact q _ _ Z1 η1 ⟨s, e.w⟩ (.bl true)
      | exc _ => cases hg
      | _ =>
        have hne := view_non vd (by simp)
        obtain rfl := Option.some.inj hg
        rw [decide_eq_false hne]
        exact q _ _ Z1 η1 ⟨s, e.w⟩ (.bl false)
    | true =>
      refine .of (.inl rfl) (pe_cmpR op_notN ha pe_non (by rfl)) (pt_cmpR op_notN ha pe_non (by rfl)) fun σ H Q h => tE.mono h.bnd fun x H1 hx => ?_
      obtain ⟨Z, η, Z1, η1, ω1, r, d, y, e, s, vd, hg, q⟩ := hx.pure
      refine ⟨rfl, ?_⟩
      cases d with
      | non =>
        cases vd.non
        obtain rfl := Option.some.inj hg
        exact q _ _ Z1 η1 ⟨s, e.w⟩ (.bl false)
      | exc _ => cases hg
      | _ =>
        have hne := view_non vd (by simp)
        obtain rfl := Option.some.inj hg
        rw [decide_eq_false hne]
        exact q _ _ Z1 η1 ⟨s, e.w⟩ (.bl true)
  · cases n with
    | false =>
      refine .of (.inl rfl) (pe_cmpR op_isBl ha pe_bl (by rfl)) (pt_cmpR op_isBl ha pe_bl (by rfl)) fun σ H Q h => tE.mono h.bnd fun x H1 hx => ?_
      obtain ⟨Z, η, Z1, η1, ω1, r, d, y, e, s, vd, hg, q⟩ := hx.pure
      cases d <;> try (cases hg; done)
      rename_i b
      cases vd.bl
      obtain rfl := Option.some.inj hg
      refine ⟨b, kk, rfl, rfl, ?_⟩
      have e1 : decide (b = kk) = (kk == b) := by cases b <;> cases kk <;> rfl
      rw [e1]
      exact q _ _ Z1 η1 ⟨s, e.w⟩ (.bl _)
    | true =>
      refine .of (.inl rfl) (pe_cmpR op_notBl ha pe_bl (by rfl)) (pt_cmpR op_notBl ha pe_bl (by rfl)) fun σ H Q h => tE.mono h.bnd fun x H1 hx => ?_
      obtain ⟨Z, η, Z1, η1, ω1, r, d, y, e, s, vd, hg, q⟩ := hx.pure
      cases d <;> try (cases hg; done)
      rename_i b
      cases vd.bl
      obtain rfl := Option.some.inj hg
      refine ⟨b, kk, rfl, rfl, ?_⟩
      have e1 : (!decide (b = kk)) = !(kk == b) := by cases b <;> cases kk <;> rfl
      rw [e1]
      exact q _ _ Z1 η1 ⟨s, e.w⟩ (.bl _)
end
end PyS
end
section
namespace PyS
open PySem PySem.Spec PyProof.Rows L2
/-! ### argument lists -/
def ResL (c : Ct) (r : Py.Env) (σ : L2.St) (H H' : Hp) (Z' : Addr → Prop) (η' : List Addr) : List Kd → List V → List Py.D → Prop
  | [], [], [] => True
  | k :: ks, v :: vs, d :: ds => ResR c k r σ H H' Z' η' v d ∧ ResL c r σ H H' Z' η' ks vs ds
  | _, _, _ => False
/-- the new lists among results -/
def frL : List Kd → List V → List Py.D → List V
  | .frs :: ks, v :: vs, .lst _ :: ds => v :: frL ks vs ds
  | _ :: ks, _ :: vs, _ :: ds => frL ks vs ds
  | _, _, _ => []
def postA (c : Ct) (ks : List Kd) (σ : L2.St) (r : Py.Env) (H : Hp) (Z : Addr → Prop) (η : List Addr) (Q : List V → Hp → Prop) (res : Py.Res (List Py.D)) : Prop := match res with
  | .ok d ω' => ∀ v H' Z' η', c.Nx H Z η H' Z' η' ω' → ResL c r σ H H' Z' η' ks v d → (frL ks v d).Nodup → Q v H'
  | .exc x ω' => ∀ H' Z' η' a, c.Nx H Z η H' Z' η' ω' → c.eA x = some a → c.W (.ref a) none σ H'
  | .stuck => False
def tA (c : Ct) (ks : List Kd) (m : Py.Env → Py.M (List Py.D)) : TA := fun σ H Q => ∃ Z η ω r, c.Env σ r H Z η ω ∧ postA c ks σ r H Z η Q (m r ω)
def JA (c : Ct) (ks : List Kd) (es : List Expr) (m : Py.Env → Py.M (List Py.D)) : Prop := PA c.X es (tA c ks m)
theorem PA.imp {X : Cx} {e : List Expr} {t t' : TA} (h : PA X e t) (i : ∀ σ H Q, t' σ H Q → t σ H Q) : PA X e t' := ⟨fun pos pins s σ H Q I q => h.run pos pins s σ H Q I (i σ H Q q)⟩
section
variable {c : Ct} {k ka kb kc : Kd} {ks : List Kd} {σ : L2.St} {H H1 H2 : Hp} {Q : VK} {v u : V}
theorem ResL.step {r : Py.Env} {Z1 Z2 : Addr → Prop} {η1 η2 : List Addr} {ω1 : Py.Store} (w1 : c.WI H1 Z1 η1 ω1) (s : Step H1 Z1 η1 H2 Z2 η2) : ∀ {ks : List Kd} {vs : List V} {ds : List Py.D}, ResL c r σ H H1 Z1 η1 ks vs ds → ResL c r σ H H2 Z2 η2 ks vs ds
  | [], [], [], _ => trivial
  | _ :: _, _ :: _, _ :: _, ⟨a, b⟩ => ⟨a.step w1 s, ResL.step w1 s b⟩
theorem ResL.base {r : Py.Env} {Z Z1 Z2 : Addr → Prop} {η η1 η2 : List Addr} (s : Step H Z η H1 Z1 η1) : ∀ {ks : List Kd} {vs : List V} {ds : List Py.D}, ResL c r σ H1 H2 Z2 η2 ks vs ds → ResL c r σ H H2 Z2 η2 ks vs ds
  | [], [], [], _ => trivial
  | _ :: _, _ :: _, _ :: _, ⟨a, b⟩ => ⟨a.base s, ResL.base s b⟩
theorem ResL.length {r : Py.Env} {Z1 : Addr → Prop} {η1 : List Addr} : ∀ {ks : List Kd} {vs : List V} {ds : List Py.D}, ResL c r σ H H1 Z1 η1 ks vs ds → vs.length = ks.length ∧ ds.length = ks.length
  | [], [], [], _ => ⟨rfl, rfl⟩
  | _ :: _, _ :: _, _ :: _, ⟨_, b⟩ => by
    obtain ⟨h1, h2⟩ := ResL.length b
    exact ⟨by simp [h1], by simp [h2]⟩
inductive Views (c : Ct) (H : Hp) (Z : Addr → Prop) (η : List Addr) : List V → List Py.D → Prop
  | nil : Views c H Z η [] []
  | cons {v : V} {d : Py.D} {vs : List V} {ds : List Py.D} : c.View H Z η v d → Views c H Z η vs ds → Views c H Z η (v :: vs) (d :: ds)
theorem ResL.views {r : Py.Env} {Z1 : Addr → Prop} {η1 : List Addr} {ω1 : Py.Store} (e : c.Env σ r H1 Z1 η1 ω1) : ∀ {ks : List Kd} {vs : List V} {ds : List Py.D}, ResL c r σ H H1 Z1 η1 ks vs ds → Views c H1 Z1 η1 vs ds
  | [], [], [], _ => .nil
  | _ :: _, _ :: _, _ :: _, ⟨a, b⟩ => .cons (a.view e) (ResL.views e b)
def vals (n : Nat) : List Kd := List.replicate n .val
theorem ResL.rep {r : Py.Env} {Z1 : Addr → Prop} {η1 : List Addr} : ∀ {n : Nat} {vs : List V} {ds : List Py.D}, ResL c r σ H H1 Z1 η1 (vals n) vs ds → c.RepL H1 Z1 η1 vs ds
  | 0, [], [], _ => .nil
  | n + 1, v :: vs, d :: ds, h => by
    have h' : ResR c .val r σ H H1 Z1 η1 v d ∧ ResL c r σ H H1 Z1 η1 (vals n) vs ds := h
    exact .cons h'.1 (ResL.rep h'.2)
theorem ja_nil : JA c [] [] (fun _ => Py.ret []) := PA.imp pa_nil fun σ H Q ⟨Z, η, ω, r, e, h⟩ => h [] H Z η ⟨.refl, e.w⟩ trivial List.nodup_nil
theorem frL_none {r : Py.Env} {Z2 : Addr → Prop} {η2 : List Addr} : ∀ {ks : List Kd} {vs : List V} {ds : List Py.D}, ResL c r σ H1 H2 Z2 η2 ks vs ds → ∀ u ∈ frL ks vs ds, ∃ p, u = V.ref p ∧ H1 p = none
  | [], [], [], _, u, h => by simp [frL] at h
  | k :: ks, v :: vs, d :: ds, ⟨a, b⟩, u, h => by
    have ih := frL_none b
    unfold frL at h
    split at h
    · rename_i e1 e2 e3
      cases e1; cases e2; cases e3
      rcases List.mem_cons.mp h with rfl | h
      · rcases a with ⟨p, vs', ds', e1, e2, h0, _⟩ | ⟨_, hn⟩
        · exact ⟨p, e1, h0⟩
        · exact absurd rfl (hn _)
      · exact ih u h
    · rename_i e1 e2 e3
      cases e1; cases e2; cases e3
      exact ih u h
    · simp at h
theorem frL_cons {r : Py.Env} {Z1 Z2 : Addr → Prop} {η1 η2 : List Addr} {vs : List V} {d : Py.D} {ds : List Py.D} (q : ResR c k r σ H H1 Z1 η1 v d) (q2 : ResL c r σ H1 H2 Z2 η2 ks vs ds) (hd : (frL ks vs ds).Nodup) : (frL (k :: ks) (v :: vs) (d :: ds)).Nodup := by
  unfold frL
  split
  · rename_i e1 e2 e3
    cases e1; cases e2; cases e3
    refine List.nodup_cons.mpr ⟨fun hm => ?_, hd⟩
    obtain ⟨p, e1, e2⟩ := frL_none q2 _ hm
    rcases q with ⟨p', vs', ds', e3, _, _, h1, _⟩ | ⟨_, hn⟩
    · rw [e3] at e1
      cases e1
      rw [h1] at e2
      cases e2
    · exact absurd rfl (hn _)
  · rename_i e1 e2 e3
    cases e1; cases e2; cases e3
    exact hd
  · exact List.nodup_nil
theorem ja_cons {e : Expr} {es : List Expr} {m : Py.Env → Py.M Py.D} {ms : Py.Env → Py.M (List Py.D)} (he : JE c k e m) (hr : JA c ks es ms) (hs : starEach (e :: es) c.X.env = (false, eval e c.X.env) :: starEach es c.X.env) :
    JA c (k :: ks) (e :: es) (fun r => Py.bnd (m r) fun x => Py.bnd (ms r) fun xs => Py.ret (x :: xs)) := by
  refine PA.imp (pa_cons he hr hs) fun σ H Q h => ?_
  obtain ⟨Z, η, ω, r, e, h⟩ := h
  refine ⟨Z, η, ω, r, e, ?_⟩
  simp only [Py.bnd] at h
  cases hm : m r ω with
  | stuck => simp only [hm] at h; exact h
  | exc x ω' => simp only [hm] at h; exact h
  | ok d ω' =>
    simp only [hm] at h
    intro v H1 Z1 η1 n q
    refine ⟨Z1, η1, ω', r, e.step n.s n.w, ?_⟩
    cases hm : ms r ω' with
    | stuck => simp only [hm] at h; exact h
    | exc x ω2 => simp only [hm] at h; exact fun H' Z' η' a n2 ha => h H' Z' η' a (n.trans n2) ha
    | ok ds ω2 =>
      simp only [hm] at h
      intro vs H2 Z2 η2 n2 q2 hd
      exact h (v :: vs) H2 Z2 η2 (n.trans n2) ⟨q.step n.w n2.s, q2.base n.s⟩ (frL_cons q q2 hd)
/-- what lies behind an argument list -/
theorem tE.args {ms : Py.Env → Py.M (List Py.D)} {f : Py.Env → List Py.D → Py.M Py.D} (h : tE c k (fun r => Py.bnd (ms r) (f r)) σ H Q) :
    tA c ks ms σ H (fun vs H1 => ∃ Z η Z1 η1 ω1 r ds ω0, ms r ω0 = .ok ds ω1 ∧ c.Env σ r H1 Z1 η1 ω1 ∧ Step H Z η H1 Z1 η1 ∧ ResL c r σ H H1 Z1 η1 ks vs ds ∧ (frL ks vs ds).Nodup ∧ post c k σ r H Z η Q (f r ds ω1)) := by
  obtain ⟨Z, η, ω, r, e, h⟩ := h
  refine ⟨Z, η, ω, r, e, ?_⟩
  unfold Py.bnd at h
  cases hm : ms r ω with
  | stuck => simp only [hm] at h; exact h
  | exc x ω' => simp only [hm] at h; exact h
  | ok d ω' =>
    simp only [hm] at h
    intro v H1 Z1 η1 n q hd
    exact ⟨Z, η, Z1, η1, ω', r, d, ω, hm, e.step n.s n.w, n.s, q, hd, h⟩
theorem tA.mono {ms : Py.Env → Py.M (List Py.D)} {P P' : List V → Hp → Prop} (h : tA c ks ms σ H P) (i : ∀ vs H1, P vs H1 → P' vs H1) : tA c ks ms σ H P' := by
  obtain ⟨Z, η, ω, r, e, h⟩ := h
  refine ⟨Z, η, ω, r, e, ?_⟩
  cases hm : ms r ω with
  | stuck => rw [hm] at h; exact h
  | exc x ω' => rw [hm] at h; exact h
  | ok d ω' => rw [hm] at h; exact fun v H' Z' η' n q hd => i _ _ (h v H' Z' η' n q hd)
/-! ### displays -/
theorem je_tup {n : Nat} {es : List Expr} {x1 : Nat} {pos : Pos} {ms : Py.Env → Py.M (List Py.D)} (h : JA c (vals n) es ms) (hn : n ≤ 1000) : JB c .val (.Tuple es x1 pos) (fun r => Py.bnd (ms r) fun xs => Py.ret (.tup xs)) := by
  refine .plain (.inl rfl) (PE.imp (pe_tup h) fun σ H Q q => tA.mono q.args fun vs H1 ⟨Z, η, Z1, η1, ω1, r, ds, ω0, hm, e, s, rl, _, q⟩ => ?_) (fun _ => rfl)
  have hl := (ResL.length rl).1
  have hl2 : vs.length = n := by rw [hl]; exact List.length_replicate
  refine ⟨by rw [hl2, sizeLine_eq]; omega, fun p hp => ?_⟩
  have nx : c.Nx H Z η H1 Z1 η1 ω1 := ⟨s, e.w⟩
  exact q (.ref p) _ Z1 η1 (nx.new hp) (Rep.newT nx hp rl.rep)
theorem je_lst {n : Nat} {es : List Expr} {pos : Pos} {ms : Py.Env → Py.M (List Py.D)} (h : JA c (vals n) es ms) (hn : n ≤ 1000) : JB c .frs (.List es pos) (fun r => Py.bnd (ms r) fun xs => Py.ret (.lst xs)) := by
  refine .plain (.inr rfl) (PE.imp (pe_lst h) fun σ H Q q => tA.mono q.args fun vs H1 ⟨Z, η, Z1, η1, ω1, r, ds, ω0, hm, e, s, rl, _, q⟩ => ?_) (fun _ => rfl)
  have hl := (ResL.length rl).1
  have hl2 : vs.length = n := by rw [hl]; exact List.length_replicate
  refine ⟨by rw [hl2, sizeLine_eq]; omega, fun p hp => ?_⟩
  have nx : c.Nx H Z η H1 Z1 η1 ω1 := ⟨s, e.w⟩
  exact q (.ref p) _ Z1 η1 (nx.new hp) (ResR.newL nx hp rl.rep)
/-! ### items -/
def OutS (c : Ct) (H : Hp) (Z : Addr → Prop) (η : List Addr) (z : Py.D) (v : V) (H' : Hp) : Prop :=
  (∃ p, H p = none ∧ ((∃ vs ds, v = .ref p ∧ z = .lst ds ∧ H' = upd H p (.lst vs) ∧ c.RepL H Z η vs ds) ∨ (∃ vs ds, v = .ref p ∧ z = .tup ds ∧ H' = upd H p (.tup vs) ∧ c.RepL H Z η vs ds))) ∨ (H' = H ∧ c.Rep H Z η v z ∧ ∀ ds, z ≠ .lst ds)
theorem ixN_eq (n : Nat) (i : Int) : Py.ixN n i = L2.ixN n i := rfl
theorem atI_rep {vs : List V} {ds : List Py.D} {Z : Addr → Prop} {η : List Addr} {i : Int} {d : Py.D} (rl : c.RepL H Z η vs ds) (h : ((Py.ixN ds.length i).bind fun j => ds[j]?) = some d) : ∃ v, atI vs i = some v ∧ c.Rep H Z η v d := by
  obtain ⟨j, h1, h2⟩ := Option.bind_eq_some_iff.mp h
  obtain ⟨v, h3, h4⟩ := rl.get h2
  refine ⟨v, ?_, h4⟩
  unfold atI
  rw [rl.length, ← ixN_eq, h1]
  exact h3
theorem chars_ok {cs : List Nat} {c : Nat} (h : (cs.all fun c => decide (c < 1114112)) = true) (hm : c ∈ cs) : ([c].all fun c => decide (c < 1114112)) = true := by
  simp only [List.all_cons, List.all_nil, Bool.and_true]
  exact List.all_eq_true.mp h c hm
theorem jb_sub {a b : Expr} {pos : Pos} {ma mb : Py.Env → Py.M Py.D} (ha : JE c ka a ma) (hb : JE c kb b mb) (hs : PlainIx b) :
    JB c .val (.Subscript a b pos) (fun r => Py.bnd (ma r) fun x => Py.bnd (mb r) fun y => Py.lif (Py.subD x y)) := by
  refine .plain (.inl rfl) (PE.imp (pe_ix ix_seq ha hb hs) fun σ H Q h => tE.mono h.bnd fun x H1 hx => tE.mono hx.bnd fun y H2 hy => ?_) (fun _ => rfl)
  obtain ⟨Z, η, Z1, η1, ω1, r, d, e, z, en, s, vd, ve, hg, q⟩ := hy.pure
  cases d <;> cases e <;> (try (simp [Py.subD] at hg; done))
  · -- a text
    rename_i cs i
    simp only [Py.subD] at hg
    split at hg
    case isFalse => cases hg
    case isTrue hl =>
      obtain ⟨rfl, hc⟩ := vd.str
      cases ve.int
      obtain ⟨ch, h1, rfl⟩ := Option.map_eq_some_iff.mp hg
      obtain ⟨j, h2, h3⟩ := Option.bind_eq_some_iff.mp h1
      refine .inr (.inr ⟨_, _, ch, rfl, rfl, by rw [len_tx, ← lim_eq]; exact hl, ?_, q _ _ Z1 η1 ⟨s, en.w⟩ ?_⟩)
      · unfold atI
        rw [← ixN_eq, h2]
        exact h3
      · exact .str [ch] (chars_ok hc (List.mem_of_getElem? h3))
  · rename_i xs i
    obtain ⟨a, vs, rfl, h1, rl⟩ := vd.tup
    cases ve.int
    obtain ⟨v, h2, h3⟩ := atI_rep rl hg
    exact .inr (.inl ⟨a, vs, _, v, rfl, rfl, .of h1, h2, q _ _ Z1 η1 ⟨s, en.w⟩ h3⟩)
  · rename_i xs i
    obtain ⟨a, vs, rfl, h1, rl⟩ := vd.lst
    cases ve.int
    obtain ⟨v, h2, h3⟩ := atI_rep rl hg
    exact .inl ⟨a, vs, _, v, rfl, rfl, .of h1, h2, q _ _ Z1 η1 ⟨s, en.w⟩ h3⟩
  · rename_i xs i
    obtain ⟨a, vs, rfl, h1, rl⟩ := vd.scr
    cases ve.int
    obtain ⟨v, h2, h3⟩ := atI_rep rl hg
    exact .inl ⟨a, vs, _, v, rfl, rfl, h1, h2, q _ _ Z1 η1 ⟨s, en.w⟩ h3⟩
end
end PyS
end
section
namespace PyS
open PySem PySem.Spec PyProof.Rows L2
section
variable {c : Ct} {k ka kb kc : Kd} {ks : List Kd} {σ : L2.St} {H H1 H2 : Hp} {Q : VK} {v u : V}
theorem OutS.fin {r : Py.Env} {Z Z1 : Addr → Prop} {η η1 : List Addr} {ω1 : Py.Store} {z : Py.D} (e : c.Env σ r H1 Z1 η1 ω1) (s : Step H Z η H1 Z1 η1)
    (h : ∀ v' H' Z' η', c.Nx H Z η H' Z' η' ω1 → ResR c .frs r σ H H' Z' η' v' z → Q v' H') : ∀ v H', OutS c H1 Z1 η1 z v H' → Q v H' := finish e s h
/-! ### slices -/
theorem cut_eq (vs : List V) (lo hi : Option Int) : cutV vs lo hi = Py.cut vs lo hi := rfl
theorem RepL.cut {Z : Addr → Prop} {η : List Addr} {vs : List V} {ds : List Py.D} (rl : c.RepL H Z η vs ds) (lo hi : Option Int) : c.RepL H Z η (Py.cut vs lo hi) (Py.cut ds lo hi) := by
  unfold Py.cut
  rw [rl.length]
  exact (rl.drop _).take _
theorem cut_whole {α : Type} {xs : List α} {lo hi : Option Int} (h1 : Py.sIx xs.length 0 lo = 0) (h2 : Py.sIx xs.length xs.length hi = xs.length) : Py.cut xs lo hi = xs := by
  unfold Py.cut
  rw [h1, h2]
  simp
theorem cutS_eq (cs : List Nat) (lo hi : Option Int) : cutS ⟨cs.toArray⟩ lo hi = ⟨(Py.cut cs lo hi).toArray⟩ := by
  unfold cutS Py.cut
  rfl
theorem slR_all {X : Cx} : SlR X (fun x lo hi H Q => rSlL X.K x lo hi H Q ∨ (rSlA X.K x lo hi H Q ∨ rSlS x lo hi H Q)) := sl_list.or (sl_tupA.or sl_str)
theorem slc_end {d z : Py.D} {lo hi : Option Int} {Z : Addr → Prop} {η : List Addr} {K : PySem.W.Frag} (hK : K = c.X.K) (vd : c.View H Z η v d) (hg : Py.slcD d lo hi = some z) (q : ∀ v' H', OutS c H Z η z v' H' → Q v' H') :
    rSlL K v lo hi H Q ∨ (rSlA K v lo hi H Q ∨ rSlS v lo hi H Q) := by
  subst hK
  cases d <;> (try (simp [Py.slcD] at hg; done))
  case str cs =>
    simp only [Py.slcD] at hg
    split at hg
    case isFalse => cases hg
    case isTrue hl =>
      cases hg
      obtain ⟨rfl, hc⟩ := vd.str
      refine .inr (.inr ⟨_, rfl, by rw [len_tx, ← lim_eq]; exact hl, ?_⟩)
      rw [cutS_eq]
      refine q _ _ (.inr ⟨rfl, .str _ ?_, fun _ z => by cases z⟩)
      rw [List.all_eq_true] at hc ⊢
      intro x hx
      exact hc x (List.mem_of_mem_drop (List.mem_of_mem_take hx))
  case tup ds =>
    simp only [Py.slcD, Option.some.injEq] at hg
    subst hg
    obtain ⟨a, vs, rfl, h1, rl⟩ := vd.tup
    refine .inr (.inl ⟨a, vs, rfl, .of h1, fun hw => ?_, fun hw p hp => ?_⟩)
    · refine q _ _ (.inr ⟨rfl, ?_, fun _ z => by cases z⟩)
      have e : Py.cut ds lo hi = ds := by
        have hl := rl.length
        rw [hl] at hw
        exact cut_whole hw.1 hw.2
      rw [e]
      exact .tup h1 rl
    · exact q _ _ (.inl ⟨p, hp, .inr ⟨_, _, rfl, rfl, rfl, rl.cut lo hi⟩⟩)
  case lst ds =>
    simp only [Py.slcD, Option.some.injEq] at hg
    subst hg
    obtain ⟨a, vs, rfl, h1, rl⟩ := vd.lst
    exact .inl ⟨a, vs, rfl, .of h1, fun p hp => q _ _ (.inl ⟨p, hp, .inl ⟨_, _, rfl, rfl, rfl, rl.cut lo hi⟩⟩)⟩
theorem asInt_some {d : Py.D} {i : Int} (h : Py.asInt d = some i) : d = .int i := by
  cases d <;> simp [Py.asInt] at h
  rw [h]
theorem jb_slL {a lo : Expr} {p2 pos : Pos} {ma mb : Py.Env → Py.M Py.D} (ha : JE c ka a ma) (hb : JE c kb lo mb) :
    JB c .frs (.Subscript a (.Slice (some lo) none none p2) pos) (fun r => Py.bnd (ma r) fun x => Py.bnd (mb r) fun y => Py.lif ((Py.asInt y).bind fun i => Py.slcD x (some i) none)) := by
  refine .plain (.inr rfl) (PE.imp (pe_slice slR_all ha (po_some hb) po_none) fun σ H Q h => tE.mono h.bnd fun x H1 hx => tE.mono hx.bnd fun y H2 hy => ?_) (fun _ => rfl)
  obtain ⟨Z, η, Z1, η1, ω1, r, d, e, z, en, s, vd, ve, hg, q⟩ := hy.pure (g := fun x y => (Py.asInt y).bind fun i => Py.slcD x (some i) none)
  obtain ⟨i, hi, hg⟩ := Option.bind_eq_some_iff.mp hg
  obtain rfl := asInt_some hi
  exact ⟨i, ve.int, slc_end rfl vd hg (OutS.fin en s q)⟩
theorem jb_slH {a hi : Expr} {p2 pos : Pos} {ma mb : Py.Env → Py.M Py.D} (ha : JE c ka a ma) (hb : JE c kb hi mb) :
    JB c .frs (.Subscript a (.Slice none (some hi) none p2) pos) (fun r => Py.bnd (ma r) fun x => Py.bnd (mb r) fun y => Py.lif ((Py.asInt y).bind fun i => Py.slcD x none (some i))) := by
  refine .plain (.inr rfl) (PE.imp (pe_slice slR_all ha po_none (po_some hb)) fun σ H Q h => tE.mono h.bnd fun x H1 hx => tE.mono hx.bnd fun y H2 hy => ?_) (fun _ => rfl)
  obtain ⟨Z, η, Z1, η1, ω1, r, d, e, z, en, s, vd, ve, hg, q⟩ := hy.pure (g := fun x y => (Py.asInt y).bind fun i => Py.slcD x none (some i))
  obtain ⟨i, hi, hg⟩ := Option.bind_eq_some_iff.mp hg
  obtain rfl := asInt_some hi
  exact ⟨i, ve.int, slc_end rfl vd hg (OutS.fin en s q)⟩
theorem jb_slB {a lo hi : Expr} {p2 pos : Pos} {ma mb md : Py.Env → Py.M Py.D} (ha : JE c ka a ma) (hb : JE c kb lo mb) (hd : JE c kc hi md) :
    JB c .frs (.Subscript a (.Slice (some lo) (some hi) none p2) pos) (fun r => Py.bnd (ma r) fun x => Py.bnd (mb r) fun y => Py.bnd (Py.lif (Py.asInt y)) fun i => Py.bnd (md r) fun z => Py.lif ((Py.asInt z).bind fun j => Py.slcD x (some i) (some j))) := by
  refine .plain (.inr rfl) (PE.imp (pe_slice slR_all ha (po_some hb) (po_some hd)) fun σ H Q h => tE.mono h.bnd fun x H1 hx => tE.mono hx.bnd fun y H2 hy => ?_) (fun _ => rfl)
  obtain ⟨Z, η, Z1, η1, ω1, r, d, e, en, s, vd, ve, q⟩ := hy
  replace q : post c .frs σ r H Z η Q (Py.bnd (Py.lif (Py.asInt e)) (fun i => Py.bnd (md r) fun z => Py.lif ((Py.asInt z).bind fun j => Py.slcD d (some i) (some j))) ω1) := q
  cases hi : Py.asInt e with
  | none => rw [hi] at q; exact q.elim
  | some i =>
    rw [hi] at q
    obtain rfl := asInt_some hi
    have hm : Mid2 c .frs ka kb σ H Q (fun r x y => Py.bnd (md r) fun z => Py.lif ((Py.asInt z).bind fun j => Py.slcD x (some i) (some j))) x y H2 := ⟨Z, η, Z1, η1, ω1, r, d, .int i, en, s, vd, ve, q⟩
    refine ⟨i, (ve.view en).int, tE.mono (Mid2.bnd (kc := kc) hm) fun z H3 hz => ?_⟩
    obtain ⟨Z, η, Z1, η1, ω1, r, d, e, g, en, s, vd, ve, vg, q⟩ := hz
    replace q : post c .frs σ r H Z η Q (Py.lif ((Py.asInt g).bind fun j => Py.slcD d (some i) (some j)) ω1) := q
    cases hj : (Py.asInt g).bind fun j => Py.slcD d (some i) (some j) with
    | none => rw [hj] at q; exact q.elim
    | some z =>
      rw [hj] at q
      obtain ⟨j, h1, h2⟩ := Option.bind_eq_some_iff.mp hj
      obtain rfl := asInt_some h1
      exact ⟨j, (vg.view en).int, slc_end rfl (vd.view en) h2 (OutS.fin en s q)⟩
/-! ### calls of built-in functions -/
def CallS (c : Ct) (f : Value) (g : List Py.D → Option Py.D) : Prop :=
  ∃ r : List V → Hp → VK → Prop, CallR c.X f r ∧ ∀ (vs : List V) (ds : List Py.D) (z : Py.D) (H : Hp) (Z : Addr → Prop) (η : List Addr) (ω : Py.Store) (Q : VK), c.WI H Z η ω → Views c H Z η vs ds → g ds = some z → (∀ v H', OutS c H Z η z v H' → Q v H') → r vs H Q
theorem post.lif {r : Py.Env} {Z : Addr → Prop} {η : List Addr} {ω : Py.Store} {o : Option Py.D} (h : post c k σ r H Z η Q (Py.lif o ω)) : ∃ z, o = some z ∧ ∀ v' H' Z' η', c.Nx H Z η H' Z' η' ω → ResR c k r σ H H' Z' η' v' z → Q v' H' := by
  cases o with
  | none => exact h.elim
  | some z => exact ⟨z, rfl, h⟩
theorem jb_callB {x : Str} {p pos : Pos} {id : String} {e : Expr} {es : List Expr} {ms : Py.Env → Py.M (List Py.D)} {g : List Py.D → Option Py.D} (hc : CallS c (.builtin id) g) (hg : Gl c.X x) (hm : c.X.mg x = none) (hv : bootBuiltins x = some (.builtin id)) (ha : JA c ks (e :: es) ms)
    (hn : x ≠ "__name__") (hdb : (x == ("__debug__" : Str)) = false) (he : starEach (e :: es) c.X.env = (false, eval e c.X.env) :: starEach es c.X.env) (hpl : (backTo pos (starEach es c.X.env)).any (·.1) = false) :
    JB c .frs (.Call (.Name x p) (e :: es) [] pos) (fun r => Py.bnd (ms r) fun xs => Py.lif (g xs)) := by
  obtain ⟨r, h1, h2⟩ := hc
  refine .plain (.inr rfl) (PE.imp (pe_callB h1 hg hm hv ha hn hdb he hpl) fun σ H Q q => tA.mono q.args fun vs H1 ⟨Z, η, Z1, η1, ω1, r, ds, ω0, hm, en, s, rl, _, q⟩ => ?_) (fun _ => rfl)
  obtain ⟨z, hz, q⟩ := q.lif
  exact h2 vs ds z H1 Z1 η1 ω1 Q en.w (rl.views en) hz (OutS.fin en s q)
theorem jb_callTy {x : Str} {p pos : Pos} {T : String} {e : Expr} {es : List Expr} {ms : Py.Env → Py.M (List Py.D)} {g : List Py.D → Option Py.D} (hc : CallS c (.type T) g) (hg : Gl c.X x) (hm : c.X.mg x = none) (hv : bootBuiltins x = some (.type T)) (ha : JA c ks (e :: es) ms)
    (hn : x ≠ "__name__") (hdb : (x == ("__debug__" : Str)) = false) (he : starEach (e :: es) c.X.env = (false, eval e c.X.env) :: starEach es c.X.env) (hpl : (backTo pos (starEach es c.X.env)).any (·.1) = false) :
    JB c .frs (.Call (.Name x p) (e :: es) [] pos) (fun r => Py.bnd (ms r) fun xs => Py.lif (g xs)) := by
  obtain ⟨r, h1, h2⟩ := hc
  refine .plain (.inr rfl) (PE.imp (pe_callTy h1 hg hm hv ha hn hdb he hpl) fun σ H Q q => tA.mono q.args fun vs H1 ⟨Z, η, Z1, η1, ω1, r, ds, ω0, hm, en, s, rl, _, q⟩ => ?_) (fun _ => rfl)
  obtain ⟨z, hz, q⟩ := q.lif
  exact h2 vs ds z H1 Z1 η1 ω1 Q en.w (rl.views en) hz (OutS.fin en s q)
theorem Views.one {Z : Addr → Prop} {η : List Addr} {vs : List V} {d : Py.D} (h : Views c H Z η vs [d]) : ∃ v, vs = [v] ∧ c.View H Z η v d := by
  cases h with
  | cons a t => cases t; exact ⟨_, rfl, a⟩
theorem Views.two {Z : Addr → Prop} {η : List Addr} {vs : List V} {d e : Py.D} (h : Views c H Z η vs [d, e]) : ∃ v u, vs = [v, u] ∧ c.View H Z η v d ∧ c.View H Z η u e := by
  cases h with
  | cons a t => cases t with
    | cons b t => cases t; exact ⟨_, _, rfl, a, b⟩
theorem flat_out {Z : Addr → Prop} {η : List Addr} {z : Py.D} (q : ∀ v H', OutS c H Z η z v H' → Q v H') {v : V} (h : c.Rep H Z η v z) (hn : ∀ ds, z ≠ .lst ds) : Q v H := q v H (.inr ⟨rfl, h, hn⟩)
theorem cs_len : CallS c (.builtin "len") Py.lenD := by
  refine ⟨_, call_len_seq.or call_len_str, ?_⟩
  intro vs ds z H Z η ω Q w hv hg q
  unfold Py.lenD at hg
  split at hg <;> first | (cases hg; done) | skip
  · obtain ⟨v, rfl, hw⟩ := hv.one
    cases hg
    obtain ⟨a, vs, rfl, h1, rl⟩ := hw.scr
    refine .inl ⟨a, vs, rfl, .inl h1, ?_⟩
    rw [rl.length]
    exact flat_out q (.int _) fun _ z => by cases z
  · obtain ⟨v, rfl, hw⟩ := hv.one
    cases hg
    obtain ⟨a, vs, rfl, h1, rl⟩ := hw.lst
    refine .inl ⟨a, vs, rfl, .inl (.of h1), ?_⟩
    rw [rl.length]
    exact flat_out q (.int _) fun _ z => by cases z
  · obtain ⟨v, rfl, hw⟩ := hv.one
    cases hg
    obtain ⟨a, vs, rfl, h1, rl⟩ := hw.tup
    refine .inl ⟨a, vs, rfl, .inr (.of h1), ?_⟩
    rw [rl.length]
    exact flat_out q (.int _) fun _ z => by cases z
  · obtain ⟨v, rfl, hw⟩ := hv.one
    split at hg
    case isFalse => cases hg
    case isTrue hl =>
      cases hg
      obtain ⟨rfl, hc⟩ := hw.str
      refine .inr ⟨_, rfl, by rw [len_tx, ← lim_eq]; exact hl, ?_⟩
      rw [len_tx]
      exact flat_out q (.int _) fun _ z => by cases z
theorem cs_abs : CallS c (.builtin "abs") Py.absD := by
  refine ⟨_, call_abs, ?_⟩
  intro vs ds z H Z η ω Q w hv hg q
  unfold Py.absD at hg
  split at hg <;> first | (cases hg; done) | skip
  obtain ⟨v, rfl, hw⟩ := hv.one
  cases hg
  cases hw.int
  exact ⟨_, rfl, flat_out q (.int _) fun _ z => by cases z⟩
theorem cs_max2 (hc : c.X.calm = true) : CallS c (.builtin "max") Py.max2D := by
  refine ⟨_, call_max2 hc, ?_⟩
  intro vs ds z H Z η ω Q w hv hg q
  unfold Py.max2D at hg
  split at hg <;> first | (cases hg; done) | skip
  obtain ⟨v, u, rfl, hw, hu⟩ := hv.two
  cases hg
  cases hw.int
  cases hu.int
  exact ⟨_, _, rfl, flat_out q (.int _) fun _ z => by cases z⟩
theorem cs_min2 (hc : c.X.calm = true) : CallS c (.builtin "min") Py.min2D := by
  refine ⟨_, call_min2 hc, ?_⟩
  intro vs ds z H Z η ω Q w hv hg q
  unfold Py.min2D at hg
  split at hg <;> first | (cases hg; done) | skip
  obtain ⟨v, u, rfl, hw, hu⟩ := hv.two
  cases hg
  cases hw.int
  cases hu.int
  exact ⟨_, _, rfl, flat_out q (.int _) fun _ z => by cases z⟩
theorem toInts_rep {Z : Addr → Prop} {η : List Addr} : ∀ {vs : List V} {ds : List Py.D} {ns : List Int}, c.RepL H Z η vs ds → Py.toInts ds = some ns → vs = ns.map V.int ∧ ds = ns.map Py.D.int
  | _, _, _, .nil, h => by cases h; exact ⟨rfl, rfl⟩
  | v :: vs, d :: ds, ns, .cons r t, h => by
    cases d <;> simp only [Py.toInts] at h <;> try (cases h; done)
    obtain ⟨ms, h1, rfl⟩ := Option.map_eq_some_iff.mp h
    obtain ⟨e1, e2⟩ := toInts_rep t h1
    cases r
    rw [e1, e2]
    exact ⟨rfl, rfl⟩
theorem toBls_rep {Z : Addr → Prop} {η : List Addr} : ∀ {vs : List V} {ds : List Py.D} {ns : List Bool}, c.RepL H Z η vs ds → Py.toBls ds = some ns → vs = ns.map V.bl ∧ ds = ns.map Py.D.bl
  | _, _, _, .nil, h => by cases h; exact ⟨rfl, rfl⟩
  | v :: vs, d :: ds, ns, .cons r t, h => by
    cases d <;> simp only [Py.toBls] at h <;> try (cases h; done)
    obtain ⟨ms, h1, rfl⟩ := Option.map_eq_some_iff.mp h
    obtain ⟨e1, e2⟩ := toBls_rep t h1
    cases r
    rw [e1, e2]
    exact ⟨rfl, rfl⟩
theorem cs_sum (hc : c.X.calm = true) : CallS c (.builtin "sum") Py.sumD := by
  refine ⟨_, cr_sum hc, ?_⟩
  intro vs ds z H Z η ω Q w hv hg q
  unfold Py.sumD at hg
  split at hg <;> first | (cases hg; done) | skip
  obtain ⟨v, rfl, hw⟩ := hv.one
  obtain ⟨ns, h1, rfl⟩ := Option.map_eq_some_iff.mp hg
  obtain ⟨a, vs, rfl, h2, rl⟩ := hw.lst
  obtain ⟨rfl, rfl⟩ := toInts_rep rl h1
  exact ⟨a, ns, rfl, .of h2, flat_out q (.int _) fun _ z => by cases z⟩
theorem cs_any (hc : c.X.calm = true) : CallS c (.builtin "any") Py.anyD := by
  refine ⟨_, cr_any hc, ?_⟩
  intro vs ds z H Z η ω Q w hv hg q
  unfold Py.anyD at hg
  split at hg <;> first | (cases hg; done) | skip
  obtain ⟨v, rfl, hw⟩ := hv.one
  obtain ⟨ns, h1, rfl⟩ := Option.map_eq_some_iff.mp hg
  obtain ⟨a, vs, rfl, h2, rl⟩ := hw.lst
  obtain ⟨rfl, rfl⟩ := toBls_rep rl h1
  exact ⟨a, ns, rfl, .of h2, flat_out q (.bl _) fun _ z => by cases z⟩
theorem cs_all (hc : c.X.calm = true) : CallS c (.builtin "all") Py.allD := by
  refine ⟨_, cr_all hc, ?_⟩
  intro vs ds z H Z η ω Q w hv hg q
  unfold Py.allD at hg
  split at hg <;> first | (cases hg; done) | skip
  obtain ⟨v, rfl, hw⟩ := hv.one
  obtain ⟨ns, h1, rfl⟩ := Option.map_eq_some_iff.mp hg
  obtain ⟨a, vs, rfl, h2, rl⟩ := hw.lst
  obtain ⟨rfl, rfl⟩ := toBls_rep rl h1
  exact ⟨a, ns, rfl, .of h2, flat_out q (.bl _) fun _ z => by cases z⟩
theorem cs_tuple : CallS c (.type "tuple") Py.tupleD := by
  refine ⟨_, call_tuple_of, ?_⟩
  intro vs ds z H Z η ω Q w hv hg q
  unfold Py.tupleD at hg
  split at hg <;> first | (cases hg; done) | skip
  · obtain ⟨v, rfl, hw⟩ := hv.one
    cases hg
    obtain ⟨a, vs, rfl, h2, rl⟩ := hw.lst
    exact ⟨a, vs, rfl, .inl ⟨.of h2, fun p hp => q _ _ (.inl ⟨p, hp, .inr ⟨_, _, rfl, rfl, rfl, rl⟩⟩)⟩⟩
  · obtain ⟨v, rfl, hw⟩ := hv.one
    cases hg
    obtain ⟨a, vs, rfl, h2, rl⟩ := hw.tup
    exact ⟨a, vs, rfl, .inr ⟨.of h2, flat_out q (.tup h2 rl) fun _ z => by cases z⟩⟩
theorem cs_list : CallS c (.type "list") Py.listD := by
  refine ⟨_, call_list_of, ?_⟩
  intro vs ds z H Z η ω Q w hv hg q
  unfold Py.listD at hg
  split at hg <;> first | (cases hg; done) | skip
  · obtain ⟨v, rfl, hw⟩ := hv.one
    cases hg
    obtain ⟨a, vs, rfl, h2, rl⟩ := hw.lst
    exact ⟨a, vs, rfl, .inl (.of h2), fun p hp => q _ _ (.inl ⟨p, hp, .inl ⟨_, _, rfl, rfl, rfl, rl⟩⟩)⟩
  · obtain ⟨v, rfl, hw⟩ := hv.one
    cases hg
    obtain ⟨a, vs, rfl, h2, rl⟩ := hw.tup
    exact ⟨a, vs, rfl, .inr (.of h2), fun p hp => q _ _ (.inl ⟨p, hp, .inl ⟨_, _, rfl, rfl, rfl, rl⟩⟩)⟩
theorem isTy_kit {T : Py.Ty} : True := trivial
def tyName : Py.Ty → String
  | .int => "int" | .bool => "bool" | .str => "str" | .list => "list" | .tuple => "tuple"
theorem cs_isi (t : Py.Ty) {d : Py.D} {b : Bool} {v : V} {Z : Addr → Prop} {η : List Addr} (hv : c.View H Z η v d) (h : Py.isTy t d = some b) : ∃ T, TyX c.X.K H v (.type T) ∧ PySem.W.kitOne c.X.K (.type T) (.type (tyName t)) = some b := by
  cases d <;> (try (cases t <;> simp [Py.isTy] at h; done))
  · cases hv.non; exact ⟨_, .base .non, kit_ty (by cases t <;> cases h <;> decide +kernel)⟩
  · cases hv.bl; exact ⟨_, .base (.bl _), kit_ty (by cases t <;> cases h <;> decide +kernel)⟩
  · cases hv.int; exact ⟨_, .base (.int _), kit_ty (by cases t <;> cases h <;> decide +kernel)⟩
  · obtain ⟨rfl, _⟩ := hv.str; exact ⟨_, .base (.str _), kit_ty (by cases t <;> cases h <;> decide +kernel)⟩
  · obtain ⟨a, vs, rfl, h1, _⟩ := hv.tup; exact ⟨_, .base (.tup h1), kit_ty (by cases t <;> cases h <;> decide +kernel)⟩
  · obtain ⟨a, vs, rfl, h1, _⟩ := hv.lst; exact ⟨_, .base (.lst h1), kit_ty (by cases t <;> cases h <;> decide +kernel)⟩
theorem jb_isi {x : Str} {t : Py.Ty} {p p2 pos : Pos} {a : Expr} {m : Py.Env → Py.M Py.D} (ha : JE c ka a m) (hg : Gl c.X "isinstance") (hm : c.X.mg "isinstance" = none) (hx : x = Str.ofString (tyName t)) (hgx : Gl c.X x) (hmx : c.X.mg x = none)
    (he : starEach [a, .Name x p2] c.X.env = (false, eval a c.X.env) :: starEach [.Name x p2] c.X.env) :
    JB c .val (.Call (.Name "isinstance" p) [a, .Name x p2] [] pos) (fun r => Py.bnd (m r) fun x => Py.lif ((Py.isTy t x).map .bl)) := by
  have hv : bootBuiltins x = some (.type (tyName t)) := by subst hx; cases t <;> decide +kernel
  have pt : PE c.X (.Name x p2) (tC (.ty (tyName t))) := pe_bltn hgx hmx hv rfl (by subst hx; cases t <;> decide) (by subst hx; cases t <;> decide)
  refine .plain (.inl rfl) (PE.imp (pe_callB call_isi hg hm boot_isinstance (pa_cons ha (pa_cons pt pa_nil) he) (by decide) (by decide) he (by rfl)) fun σ H Q q => tE.mono q.bnd fun v H1 hx => ?_) (fun _ => rfl)
  obtain ⟨Z, η, Z1, η1, ω1, r, d, y, e, s, vd, hg, q⟩ := hx.pure (g := fun x => (Py.isTy t x).map .bl)
  obtain ⟨b, h1, rfl⟩ := Option.map_eq_some_iff.mp hg
  obtain ⟨T, h2, h3⟩ := cs_isi t vd h1
  exact ⟨v, _, _, _, b, rfl, .ty _, h2, h3, q _ _ Z1 η1 ⟨s, e.w⟩ (.bl b)⟩
end
end PyS
end
section
namespace PyS
open PySem PySem.Spec PyProof.Rows L2
/-! ### a call of a def of the top -/
def spF (K : PySem.W.Frag) (fA : Ad) (eA : Nat → Option Addr) (np : Nat) (m : List Py.D → Py.M Py.D) : Sp := fun vs H Q E => vs.length = np ∧ ∃ Z η ω ds, WInv K fA H Z η ω ∧ RepL K fA H Z η vs ds ∧ match m ds ω with
  | .ok d ω' => ∀ v H' Z' η', Step H Z η H' Z' η' → WInv K fA H' Z' η' ω' → Rep K fA H' Z' η' v d → Q v H'
  | .exc x ω' => ∀ H' Z' η' a, Step H Z η H' Z' η' → WInv K fA H' Z' η' ω' → eA x = some a → E (.ref a) none H'
  | .stuck => False
section
variable {c : Ct} {k ka kb kc : Kd} {ks : List Kd} {σ : L2.St} {H H1 H2 : Hp} {Q : VK} {v u : V}
section
variable {X : Cx} {CX : CXT} {j : Nat} {f : Addr} {fd : FuncData} {ps : List Str} {sp : Sp} {E : L2.St → XK} {x : Str} {p pos : Pos}
theorem pe_callS0 (F : FnOk X.prog X.w X.K X.mg X.base CX j f fd ps sp) (hr : Room j X.A) (hg : Gl X x) (hm : X.mg x = some (.ref f)) (hk : PySem.W.keepIn X.K (.ref f) = true) (hb : Binds X.K fd ps []) (hx : ∀ σ, PassesAt CX X σ (E σ))
    (hdb : (x == ("__debug__" : Str)) = false) : PE X (.Call (.Name x p) [] [] pos) (tCallS sp E tNil) := by
  refine ⟨fun pins s σ H Q I h => ?_⟩
  refine wpAny_Call_Name_kw (ld_glob I hg hm ?_ hdb)
  exact PySem.W.callWith_K0 I.kIn hk (run_fnS (us := []) F hr hb (hx σ) I .nil h)
end
theorem call_end {n : Nat} {m : List Py.D → Py.M Py.D} {ms : Py.Env → Py.M (List Py.D)} (h : tE c .val (fun r => Py.bnd (ms r) fun xs => m xs) σ H Q) :
    tA c (vals n) ms σ H (fun vs H1 => spF c.X.K c.fA c.eA n m vs H1 Q (WE c.W σ)) := by
  refine tA.mono h.args fun vs H1 ⟨Z, η, Z1, η1, ω1, r, ds, ω0, hm, e, s, rl, _, q⟩ => ?_
  refine ⟨by rw [(ResL.length rl).1]; exact List.length_replicate, Z1, η1, ω1, ds, e.w, rl.rep, ?_⟩
  cases hmm : m ds ω1 with
  | stuck => rw [hmm] at q; exact q
  | exc x ω' => rw [hmm] at q; exact fun H' Z' η' a st w ha => q H' Z' η' a ⟨s.trans st, w⟩ ha
  | ok d ω' => rw [hmm] at q; exact fun v H' Z' η' st w r => q v H' Z' η' ⟨s.trans st, w⟩ r
theorem jb_call {j n : Nat} {f : Addr} {fd : FuncData} {ps : List Str} {x : Str} {p pos : Pos} {e : Expr} {es : List Expr} {ms : Py.Env → Py.M (List Py.D)} {m : List Py.D → Py.M Py.D}
    (F : FnOk c.X.prog c.X.w c.X.K c.X.mg c.X.base (L2.CX c.X.prog c.X.w) j f fd ps (spF c.X.K c.fA c.eA n m)) (hr : Room j c.X.A) (hg : Gl c.X x) (hm : c.X.mg x = some (.ref f)) (hk : PySem.W.keepIn c.X.K (.ref f) = true) (hb : Binds c.X.K fd ps []) (tk : Takes c.X c.W)
    (ha : JA c (vals n) (e :: es) ms) (hdb : (x == ("__debug__" : Str)) = false) (he : starEach (e :: es) c.X.env = (false, eval e c.X.env) :: starEach es c.X.env) (hpl : (backTo pos (starEach es c.X.env)).any (·.1) = false) :
    JB c .val (.Call (.Name x p) (e :: es) [] pos) (fun r => Py.bnd (ms r) fun xs => m xs) :=
  .plain (.inl rfl) (PE.imp (pe_callS F hr hg hm hk hb (passAt tk) ha hdb he hpl) fun σ H Q h => call_end h) (fun _ => rfl)
theorem jb_call0 {j : Nat} {f : Addr} {fd : FuncData} {ps : List Str} {x : Str} {p pos : Pos} {m : List Py.D → Py.M Py.D}
    (F : FnOk c.X.prog c.X.w c.X.K c.X.mg c.X.base (L2.CX c.X.prog c.X.w) j f fd ps (spF c.X.K c.fA c.eA 0 m)) (hr : Room j c.X.A) (hg : Gl c.X x) (hm : c.X.mg x = some (.ref f)) (hk : PySem.W.keepIn c.X.K (.ref f) = true) (hb : Binds c.X.K fd ps []) (tk : Takes c.X c.W)
    (hdb : (x == ("__debug__" : Str)) = false) : JB c .val (.Call (.Name x p) [] [] pos) (fun r => Py.bnd (Py.ret []) fun xs => m xs) :=
  .plain (.inl rfl) (PE.imp (pe_callS0 F hr hg hm hk hb (passAt tk) hdb) fun σ H Q h => by
    have q := call_end (n := 0) h
    obtain ⟨Z, η, ω, r, e, q⟩ := q
    exact q [] H Z η ⟨.refl, e.w⟩ trivial List.nodup_nil) (fun _ => rfl)
end
/-! ### what stands still while statements run -/
structure Grow (H : Hp) (Z : Addr → Prop) (η : List Addr) (H' : Hp) (Z' : Addr → Prop) (η' : List Addr) : Prop where
  keep : ∀ b o, H b = some o → (Z b ∨ ∃ xs, o = .tup xs) → H' b = some o
  zz : ∀ b, Z b → Z' b
  eta : ∃ l, η' = η ++ l
theorem Grow.refl {H : Hp} {Z : Addr → Prop} {η : List Addr} : Grow H Z η H Z η := ⟨fun _ _ h _ => h, fun _ h => h, [], by simp⟩
theorem Grow.trans {H H1 H2 : Hp} {Z Z1 Z2 : Addr → Prop} {η η1 η2 : List Addr} (a : Grow H Z η H1 Z1 η1) (b : Grow H1 Z1 η1 H2 Z2 η2) : Grow H Z η H2 Z2 η2 := by
  refine ⟨fun c o h z => b.keep c o (a.keep c o h z) (z.imp (a.zz c) id), fun c h => b.zz c (a.zz c h), ?_⟩
  obtain ⟨l, rfl⟩ := a.eta
  obtain ⟨l', rfl⟩ := b.eta
  exact ⟨l ++ l', by simp⟩
theorem Step.grow {K : PySem.W.Frag} {fA : Ad} {H H' : Hp} {Z Z' : Addr → Prop} {η η' : List Addr} {ω : Py.Store} (s : Step H Z η H' Z' η') (w : WInv K fA H Z η ω) : Grow H Z η H' Z' η' :=
  ⟨fun b o h z => by
    rcases z with z | ⟨xs, rfl⟩
    · exact s.keep b o h (w.zη b z)
    · exact s.tups b xs h, s.zz, let ⟨l, e, _⟩ := s.eta; ⟨l, e⟩⟩
theorem Grow.rep {K : PySem.W.Frag} {fA : Ad} {H H' : Hp} {Z Z' : Addr → Prop} {η η' : List Addr} {v : V} {d : Py.D} (s : Grow H Z η H' Z' η') (r : Rep K fA H Z η v d) : Rep K fA H' Z' η' v d := r.mono s.keep s.zz s.eta
theorem Grow.repL {K : PySem.W.Frag} {fA : Ad} {H H' : Hp} {Z Z' : Addr → Prop} {η η' : List Addr} {v : List V} {d : List Py.D} (s : Grow H Z η H' Z' η') (r : RepL K fA H Z η v d) : RepL K fA H' Z' η' v d := r.mono s.keep s.zz s.eta

/-! ### slots stored -/
section
variable {c : Ct} {σ : L2.St} {r : Py.Env} {H H1 : Hp} {Z Z1 : Addr → Prop} {η η1 : List Addr} {ω ω1 : Py.Store} {v : V} {d : Py.D} {i : Nat}
theorem get_set {α : Type} {l : List α} {i j : Nat} {x y : α} (h : (l.set i x)[j]? = some y) : (j = i ∧ i < l.length ∧ y = x) ∨ (j ≠ i ∧ l[j]? = some y) := by
  by_cases e : j = i
  · subst e
    by_cases hl : j < l.length
    · rw [List.getElem?_set_self hl] at h
      exact .inl ⟨rfl, hl, (Option.some.inj h).symm⟩
    · rw [List.getElem?_eq_none (by simpa using hl)] at h
      cases h
  · rw [List.getElem?_set_ne (Ne.symm e)] at h
    exact .inr ⟨e, h⟩
theorem Ct.Env.setV (e : c.Env σ r H Z η ω) (q : c.Rep H Z η v d) : c.Env (σ.set i (some v)) (r.set i (.v d)) H Z η ω := by
  refine ⟨e.w, e.s0, ⟨by simpa using e.sl.len, fun j d' h => ?_, fun j ds h => ?_, fun j l ds es p h1 h2 h3 h4 => ?_, fun j n h => by
    rcases get_set h with ⟨rfl, hl, e1⟩ | ⟨hn, h⟩
    · cases e1
    · obtain ⟨a, h1, h2⟩ := e.sl.xs j n h
      exact ⟨a, h1, by rw [List.getElem?_set_ne (Ne.symm hn)]; exact h2⟩⟩⟩
  · rcases get_set h with ⟨rfl, hl, e1⟩ | ⟨hn, h⟩
    · cases e1
      exact ⟨v, by rw [List.getElem?_set_self (by rw [← e.sl.len]; exact hl)], q⟩
    · obtain ⟨u, h1, h2⟩ := e.sl.val j d' h
      exact ⟨u, by rw [List.getElem?_set_ne (Ne.symm hn)]; exact h1, h2⟩
  · rcases get_set h with ⟨rfl, hl, e1⟩ | ⟨hn, h⟩
    · cases e1
    · obtain ⟨p, h1, h2⟩ := e.sl.own j ds h
      exact ⟨p, by rw [List.getElem?_set_ne (Ne.symm hn)]; exact h1, h2⟩
  · rcases get_set h1 with ⟨rfl, hl, e1⟩ | ⟨hn, h1⟩
    · cases e1
    · rcases get_set h2 with ⟨rfl, hl, e1⟩ | ⟨hn2, h2⟩
      · cases e1
      · rw [List.getElem?_set_ne (Ne.symm hn)] at h3
        rw [List.getElem?_set_ne (Ne.symm hn2)] at h4
        exact e.sl.apart j l ds es p h1 h2 h3 h4
/-- a slot forgotten -/
theorem Ct.Env.setN (e : c.Env σ r H Z η ω) {o : Option V} : c.Env (σ.set i o) (r.set i .none) H Z η ω := by
  refine ⟨e.w, e.s0, ⟨by simpa using e.sl.len, fun j d' h => ?_, fun j ds h => ?_, fun j l ds es p h1 h2 h3 h4 => ?_, fun j n h => by
    rcases get_set h with ⟨rfl, hl, e1⟩ | ⟨hn, h⟩
    · cases e1
    · obtain ⟨a, h1, h2⟩ := e.sl.xs j n h
      exact ⟨a, h1, by rw [List.getElem?_set_ne (Ne.symm hn)]; exact h2⟩⟩⟩
  · rcases get_set h with ⟨rfl, hl, e1⟩ | ⟨hn, h⟩
    · cases e1
    · obtain ⟨u, h1, h2⟩ := e.sl.val j d' h
      exact ⟨u, by rw [List.getElem?_set_ne (Ne.symm hn)]; exact h1, h2⟩
  · rcases get_set h with ⟨rfl, hl, e1⟩ | ⟨hn, h⟩
    · cases e1
    · obtain ⟨p, h1, h2⟩ := e.sl.own j ds h
      exact ⟨p, by rw [List.getElem?_set_ne (Ne.symm hn)]; exact h1, h2⟩
  · rcases get_set h1 with ⟨rfl, hl, e1⟩ | ⟨hn, h1⟩
    · cases e1
    · rcases get_set h2 with ⟨rfl, hl, e1⟩ | ⟨hn2, h2⟩
      · cases e1
      · rw [List.getElem?_set_ne (Ne.symm hn)] at h3
        rw [List.getElem?_set_ne (Ne.symm hn2)] at h4
        exact e.sl.apart j l ds es p h1 h2 h3 h4
/-- a slot that owns a list p which no other slot owns -/
theorem Ct.Env.setO {p : Addr} {ds : List Py.D} (e : c.Env σ r H Z η ω) (q : OwnAt c.X.K c.fA c.H0 H Z η p ds) (ha : ∀ j es, j ≠ i → r[j]? = some (.o es) → σ[j]? ≠ some (some (.ref p))) : c.Env (σ.set i (some (.ref p))) (r.set i (.o ds)) H Z η ω := by
  refine ⟨e.w, e.s0, ⟨by simpa using e.sl.len, fun j d' h => ?_, fun j ds' h => ?_, fun j l ds' es p' h1 h2 h3 h4 => ?_, fun j n h => by
    rcases get_set h with ⟨rfl, hl, e1⟩ | ⟨hn, h⟩
    · cases e1
    · obtain ⟨a, h1, h2⟩ := e.sl.xs j n h
      exact ⟨a, h1, by rw [List.getElem?_set_ne (Ne.symm hn)]; exact h2⟩⟩⟩
  · rcases get_set h with ⟨rfl, hl, e1⟩ | ⟨hn, h⟩
    · cases e1
    · obtain ⟨u, h1, h2⟩ := e.sl.val j d' h
      exact ⟨u, by rw [List.getElem?_set_ne (Ne.symm hn)]; exact h1, h2⟩
  · rcases get_set h with ⟨rfl, hl, e1⟩ | ⟨hn, h⟩
    · cases e1
      exact ⟨p, by rw [List.getElem?_set_self (by rw [← e.sl.len]; exact hl)], q⟩
    · obtain ⟨p, h1, h2⟩ := e.sl.own j ds' h
      exact ⟨p, by rw [List.getElem?_set_ne (Ne.symm hn)]; exact h1, h2⟩
  · rcases get_set h1 with ⟨e0, hl, e1⟩ | ⟨hn, k1⟩
    · rcases get_set h2 with ⟨e3, hl2, e2⟩ | ⟨hn2, k2⟩
      · rw [e0, e3]
      · rw [e0, List.getElem?_set_self (by rw [← e.sl.len]; exact hl)] at h3
        rw [List.getElem?_set_ne (Ne.symm hn2)] at h4
        cases h3
        exact absurd h4 (ha l es hn2 k2)
    · rw [List.getElem?_set_ne (Ne.symm hn)] at h3
      rcases get_set h2 with ⟨e3, hl2, e2⟩ | ⟨hn2, k2⟩
      · rw [e3, List.getElem?_set_self (by rw [← e.sl.len]; exact hl2)] at h4
        cases h4
        exact absurd h3 (ha j ds' hn k1)
      · rw [List.getElem?_set_ne (Ne.symm hn2)] at h4
        exact e.sl.apart j l ds' es p' k1 k2 h3 h4
end
/-! ### targets -/
def gNs : List Nat → TGs
  | [] => gNil
  | i :: is => gCons (gName i) (gNs is)
def gOf (K : PySem.W.Frag) : Py.Tgt → TG
  | .nm i => gName i
  | .tp is => gTup K is.length (gNs is)
def tgtIs : Py.Tgt → List Nat
  | .nm i => [i]
  | .tp is => is
section
variable {c : Ct} {σ : L2.St} {r r' : Py.Env} {H : Hp} {Z : Addr → Prop} {η : List Addr} {ω : Py.Store}
theorem setAll_len : ∀ {is : List Nat} {ds : List Py.D} {r r' : Py.Env}, Py.setAll r is ds = some r' → is.length = ds.length
  | [], [], _, _, _ => rfl
  | [], _ :: _, _, _, h => by cases h
  | _ :: _, [], _, _, h => by cases h
  | i :: is, d :: ds, r, r', h => by
    have := setAll_len (is := is) (ds := ds) (r := r.set i (.v d)) (r' := r') h
    simp [this]
theorem tus : ∀ {is : List Nat} {vs : List V} {ds : List Py.D} {σ : L2.St} {r r' : Py.Env} {Q : L2.St → Hp → Prop}, c.Env σ r H Z η ω → c.RepL H Z η vs ds → Py.setAll r is ds = some r' →
    (∀ σ', c.Env σ' r' H Z η ω → (∀ (i : Nat), i ∉ is → σ'[i]? = σ[i]?) → σ'.length = σ.length → Q σ' H) → gNs is vs σ H Q
  | [], vs, ds, σ, r, r', Q, e, q, hs, h => by
    cases ds with
    | cons _ _ => cases hs
    | nil =>
      cases q
      cases hs
      exact ⟨rfl, h _ e (fun _ _ => rfl) rfl⟩
  | i :: is, vs, ds, σ, r, r', Q, e, q, hs, h => by
    cases q with
    | nil => cases hs
    | cons q1 q2 =>
      refine ⟨_, _, rfl, tus (Ct.Env.setV e q1) q2 hs fun σ' e' k l => h σ' e' (fun j hj => ?_) (by rw [l]; simp)⟩
      rw [k j (fun z => hj (by simp [z])), List.getElem?_set_ne (fun z => hj (by simp [z]))]
/-- a target stores what bindT stores -/
theorem tu {t : Py.Tgt} {v : V} {d : Py.D} {Q : L2.St → Hp → Prop} (e : c.Env σ r H Z η ω) (q : c.Rep H Z η v d) (hb : Py.bindT r t d = some r')
    (h : ∀ σ', c.Env σ' r' H Z η ω → (∀ (i : Nat), i ∉ tgtIs t → σ'[i]? = σ[i]?) → σ'.length = σ.length → Q σ' H) : gOf c.X.K t v σ H Q := by
  cases t with
  | nm i =>
    cases hb
    exact h _ (Ct.Env.setV e q) (fun j hj => by rw [List.getElem?_set_ne (fun z => hj (by simp [tgtIs, z]))]) (by simp)
  | tp is =>
    cases d <;> (try (simp [Py.bindT] at hb; done))
    rename_i ds
    cases (show PyS.Rep c.X.K c.fA H Z η v (.tup ds) from q) with
    | tup h1 rl => exact ⟨_, _, rfl, .of h1, by rw [rl.length]; exact (setAll_len hb).symm, tus e rl hb h⟩
end
theorem pg_names {X : Cx} (hN : X.N.Nodup) : ∀ {es : List Expr} {is : List Nat}, (∀ (k : Nat) e, es[k]? = some e → ∃ i x pos, is[k]? = some i ∧ e = .Name x pos ∧ X.N[i]? = some x ∧ Loc X.env.scope x ∧ (X.fn x = true ∨ X.env.scope.names.lookup x = some .local)) → es.length = is.length → PGs X es (gNs is)
  | [], [], _, _ => pgs_nil
  | [], _ :: _, _, h => by cases h
  | _ :: _, [], _, h => by cases h
  | e :: es, i :: is, h, hl => by
    obtain ⟨i', x, pos, e1, rfl, hi, hx, hf⟩ := h 0 e rfl
    cases e1
    exact pgs_cons (pg_name hN hi hx hf) (pg_names hN (fun k e q => h (k + 1) e q) (by simpa using hl))
end PyS
end
section
namespace PyS
open PySem PySem.Spec PyProof.Rows L2
/-! ### what is walked -/
def iSeq (K : PySem.W.Frag) (tl : TE) : TI := fun σ H R => tl σ H fun x H1 => (∃ a xs, x = .ref a ∧ SqL K H1 a xs ∧ (xs.length ≤ sizeLine → R (Itl K a) H1)) ∨ (∃ a xs, x = .ref a ∧ SqT K H1 a xs ∧ (xs.length ≤ sizeLine → R (Itt K a) H1)) ∨ ∃ z, x = .str z ∧ R (Its z) H1
theorem pi_seq {X : Cx} {tg l : Expr} {tl : TE} (hl : PE X l tl) : PI X tg l (iSeq X.K tl) := by
  refine ⟨fun pins s σ H R I h => ?_⟩
  refine thn (hl.run pins s σ H _ I h) fun v s1 ⟨x, H1, I1, r1, q1⟩ => ?_
  rcases q1 with ⟨a, xs, e, hq, q⟩ | ⟨a, xs, e, hq, q⟩ | ⟨z, e, q⟩
  · subst e
    cases r1
    obtain ⟨its, rv, p, hz⟩ := I1.list hq
    refine wpAny_pyIter_list p.isList ?_
    refine ⟨s1.heap.objs.size, [s1.heap.objs.size], _, _, H1, rfl, I1.kept (t' := s1.toks) fun b o e => Heap.get?_push_of_some _ e, turn_list a _, ⟨_, Heap.get?_push_size _ rfl, rfl, rfl⟩, fun b hb => ?_, q hz⟩
    have e : b = s1.heap.objs.size := by simpa using hb
    subst e
    exact I1.fpOk (Nat.le_refl _) (I1.hok.fresh (Nat.le_refl _))
  · subst e
    cases r1
    obtain ⟨its, rv, p, hz⟩ := I1.tuple hq
    refine wpAny_pyIter_tuple (show s1.heap.IsTuple a its.toArray from p) ?_
    refine ⟨s1.heap.objs.size, [s1.heap.objs.size], _, _, H1, rfl, I1.kept (t' := s1.toks) fun b o e => Heap.get?_push_of_some _ e, turn_tuple a _, ⟨_, Heap.get?_push_size _ rfl, rfl, rfl⟩, fun b hb => ?_, q hz⟩
    have e : b = s1.heap.objs.size := by simpa using hb
    subst e
    exact I1.fpOk (Nat.le_refl _) (I1.hok.fresh (Nat.le_refl _))
  · subst e
    obtain ⟨t, rfl⟩ := r1
    cases ha : z.cps.all (· < 128)
    · exact wpAny_pyIter_wide ha (pi_one (tk := s1.toks) I1 _ (turn_str _ z t "str_iterator" (.inr rfl)) ⟨_, Heap.get?_push_size _ rfl, rfl, rfl⟩ q)
    · exact wpAny_pyIter_ascii ha (pi_one (tk := s1.toks) I1 _ (turn_str _ z t "str_ascii_iterator" (.inl rfl)) ⟨_, Heap.get?_push_size _ rfl, rfl, rfl⟩ q)
mutual
theorem Rep.write {K : PySem.W.Frag} {fA : Ad} {H : Hp} {Z : Addr → Prop} {η : List Addr} {p : Addr} {us : List V} {o : HO} (hp : H p = some (.lst us)) (nz : ¬ Z p) : ∀ {v : V} {d : Py.D}, Rep K fA H Z η v d → Rep K fA (upd H p o) Z η v d
  | _, _, .non => .non
  | _, _, .bl b => .bl b
  | _, _, .int i => .int i
  | _, _, .str cs h => .str cs h
  | _, _, .tup h r => .tup (by rw [upd_ne (ne_of h hp (by intro z; cases z))]; exact h) (RepL.write hp nz r)
  | _, _, .lst z h r => .lst z (by rw [upd_ne (by rintro rfl; exact nz z)]; exact h) (RepL.write hp nz r)
  | _, _, .scr h r => .scr (by
      rcases h with ⟨z, h | ⟨o, h⟩⟩ | h
      · exact .inl ⟨z, .inl (by rw [upd_ne (by rintro rfl; exact nz z)]; exact h)⟩
      · exact .inl ⟨z, .inr ⟨o, by rw [upd_ne (by rintro rfl; exact nz z)]; exact h⟩⟩
      · exact .inr h) (RepL.write hp nz r)
  | _, _, .fn h => .fn h
  | _, _, .loc h => .loc h
theorem RepL.write {K : PySem.W.Frag} {fA : Ad} {H : Hp} {Z : Addr → Prop} {η : List Addr} {p : Addr} {us : List V} {o : HO} (hp : H p = some (.lst us)) (nz : ¬ Z p) : ∀ {vs : List V} {ds : List Py.D}, RepL K fA H Z η vs ds → RepL K fA (upd H p o) Z η vs ds
  | _, _, .nil => .nil
  | _, _, .cons r t => .cons (Rep.write hp nz r) (RepL.write hp nz t)
end
/-- J gives the data ds, one a turn, as long as what it walks stands (P); S: what of it may be written by its owner -/
structure ItOkP (c : Ct) (fz : Bool) (J : It) (ds : List Py.D) (P : Hp → (Addr → Prop) → List Addr → Prop) (S : Addr → Prop) : Prop where
  len : ds.length ≤ Py.LIM
  wr : ∀ {H1 : Hp} {Z1 : Addr → Prop} {η1 : List Addr} {p : Addr} {us us' : List V}, P H1 Z1 η1 → H1 p = some (.lst us) → ¬ Z1 p → ¬ S p → P (upd H1 p (.lst us')) Z1 η1
  sd : ∀ {H1 : Hp} {Z1 : Addr → Prop} {η1 : List Addr}, P H1 Z1 η1 → ∀ b, S b → H1 b ≠ none
  step : ∀ {H1 H2 : Hp} {Z1 Z2 : Addr → Prop} {η1 η2 : List Addr} {ω1 : Py.Store}, P H1 Z1 η1 → c.WI H1 Z1 η1 ω1 → Step H1 Z1 η1 H2 Z2 η2 → P H2 Z2 η2
  grow : fz = true → ∀ {H1 H2 : Hp} {Z1 Z2 : Addr → Prop} {η1 η2 : List Addr}, P H1 Z1 η1 → Grow H1 Z1 η1 H2 Z2 η2 → P H2 Z2 η2
  go : ∀ {H1 : Hp} {Z1 : Addr → Prop} {η1 : List Addr} {ω1 : Py.Store} {i : Nat} {d : Py.D}, P H1 Z1 η1 → c.WI H1 Z1 η1 ω1 → ds[i]? = some d → J.go i H1 ∧ ∀ x H2, J.yld i H1 x H2 → Step H1 Z1 η1 H2 Z1 η1 ∧ c.WI H2 Z1 η1 ω1 ∧ c.Rep H2 Z1 η1 x d
  stop : ∀ {H1 : Hp} {Z1 : Addr → Prop} {η1 : List Addr} {i : Nat}, P H1 Z1 η1 → ds.length ≤ i → J.stop i H1
def ItOk (c : Ct) (fz : Bool) (J : It) (ds : List Py.D) (H : Hp) (Z : Addr → Prop) (η : List Addr) : Prop := ∃ P S, ItOkP c fz J ds P S ∧ P H Z η
def postI (c : Ct) (fz : Bool) (σ : L2.St) (H : Hp) (Z : Addr → Prop) (η : List Addr) (R : It → Hp → Prop) (res : Py.Res (List Py.D)) : Prop := match res with
  | .ok ds ω' => ∀ J H' Z' η', c.Nx H Z η H' Z' η' ω' → ItOk c fz J ds H' Z' η' → R J H'
  | .exc x ω' => ∀ H' Z' η' a, c.Nx H Z η H' Z' η' ω' → c.eA x = some a → c.W (.ref a) none σ H'
  | .stuck => False
def tI (c : Ct) (fz : Bool) (m : Py.Env → Py.M (List Py.D)) : TI := fun σ H R => ∃ Z η ω r, c.Env σ r H Z η ω ∧ postI c fz σ H Z η R (m r ω)
def JI (c : Ct) (fz : Bool) (tg e : Expr) (m : Py.Env → Py.M (List Py.D)) : Prop := PI c.X tg e (tI c fz m)
theorem PI.imp {X : Cx} {tg e : Expr} {t t' : TI} (h : PI X tg e t) (i : ∀ σ H R, t' σ H R → t σ H R) : PI X tg e t' := ⟨fun pins s σ H R I q => h.run pins s σ H R I (i σ H R q)⟩
section
variable {c : Ct} {fz : Bool} {k ka kb : Kd} {σ : L2.St} {H H1 : Hp} {R : It → Hp → Prop}
/-- what lies behind the walked thing's expression -/
theorem tI.bnd {ma : Py.Env → Py.M Py.D} {f : Py.Env → Py.D → Py.M (List Py.D)} (h : tI c fz (fun r => Py.bnd (ma r) (f r)) σ H R) :
    tE c k ma σ H (fun v H1 => ∃ Z η Z1 η1 ω1 r d, c.Env σ r H1 Z1 η1 ω1 ∧ c.Nx H Z η H1 Z1 η1 ω1 ∧ ResR c k r σ H H1 Z1 η1 v d ∧ postI c fz σ H Z η R (f r d ω1)) := by
  obtain ⟨Z, η, ω, r, e, h⟩ := h
  refine ⟨Z, η, ω, r, e, ?_⟩
  unfold Py.bnd at h
  cases hm : ma r ω with
  | stuck => simp only [hm] at h; exact h
  | exc x ω' => simp only [hm] at h; exact h
  | ok d ω' =>
    simp only [hm] at h
    intro v H1 Z1 η1 n q
    exact ⟨Z, η, Z1, η1, ω', r, d, e.step n.s n.w, n, q, h⟩
theorem itok_tup {a : Addr} {vs : List V} {ds : List Py.D} {Z : Addr → Prop} {η : List Addr} (h : H a = some (.tup vs)) (rl : c.RepL H Z η vs ds) (hl : ds.length ≤ Py.LIM) : ItOk c fz (Itt c.X.K a) ds H Z η := by
  refine ⟨fun H Z η => H a = some (.tup vs) ∧ c.RepL H Z η vs ds, fun _ => False, ⟨hl, fun p hp nz _ => ⟨by rw [upd_ne (ne_of p.1 hp (by intro z; cases z))]; exact p.1, p.2.write hp nz⟩, fun _ _ h => h.elim, fun p w s => ⟨s.tups _ _ p.1, s.repL w p.2⟩, fun _ _ _ _ _ _ _ p g => ⟨g.keep _ _ p.1 (.inr ⟨_, rfl⟩), g.repL p.2⟩, fun p w hd => ?_, fun p hi => ?_⟩, h, rl⟩
  · obtain ⟨v, h1, h2⟩ := p.2.get hd
    refine ⟨⟨vs, v, .of p.1, h1⟩, fun x H2 y => ?_⟩
    obtain ⟨rfl, y⟩ := y
    have e := y vs (.of p.1)
    rw [h1] at e
    cases e
    exact ⟨.refl, w, h2⟩
  · exact ⟨vs, .of p.1, by rw [p.2.length]; exact hi⟩
theorem itok_str {cs : List Nat} {Z : Addr → Prop} {η : List Addr} (hc : (cs.all fun c => decide (c < 1114112)) = true) (hl : cs.length ≤ Py.LIM) : ItOk c fz (Its ⟨cs.toArray⟩) (cs.map fun c => .str [c]) H Z η := by
  refine ⟨fun _ _ _ => True, fun _ => False, ⟨by simpa using hl, fun _ _ _ _ => trivial, fun _ _ h => h.elim, fun _ _ _ => trivial, fun _ _ _ _ _ _ _ _ _ => trivial, fun {H1 Z1 η1 ω1 i d} _ w hd => ?_, fun {H1 Z1 η1 i} _ hi => ?_⟩, trivial⟩
  · rw [List.getElem?_map] at hd
    obtain ⟨ch, h1, rfl⟩ := Option.map_eq_some_iff.mp hd
    refine ⟨?_, fun x H2 y => ?_⟩
    · show i < cs.toArray.size
      simpa using (List.getElem?_eq_some_iff.mp h1).1
    · obtain ⟨rfl, c', h2, rfl⟩ := y
      have e : c' = ch := by
        have h3 : cs.toArray[i]? = some c' := h2
        rw [List.getElem?_toArray, h1] at h3
        exact (Option.some.inj h3).symm
      subst e
      exact ⟨.refl, w, .str [c'] (chars_ok hc (List.mem_of_getElem? h1))⟩
  · show cs.toArray.size ≤ i
    simpa using hi
theorem itok_frz {a : Addr} {vs : List V} {ds : List Py.D} {Z : Addr → Prop} {η : List Addr} (h : H a = some (.lst vs)) (rl : c.RepL H Z η vs ds) (hz : Z a) (hl : ds.length ≤ Py.LIM) : ItOk c fz (Itl c.X.K a) ds H Z η := by
  refine ⟨fun H Z η => H a = some (.lst vs) ∧ c.RepL H Z η vs ds ∧ Z a, fun _ => False, ⟨hl, fun p hp nz _ => ⟨by rw [upd_ne (by rintro rfl; exact nz p.2.2)]; exact p.1, p.2.1.write hp nz, p.2.2⟩, fun _ _ h => h.elim, fun p w s => ⟨s.keep _ _ p.1 (w.zη _ p.2.2), s.repL w p.2.1, s.zz _ p.2.2⟩, fun _ _ _ _ _ _ _ p g => ⟨g.keep _ _ p.1 (.inl p.2.2), g.repL p.2.1, g.zz _ p.2.2⟩, fun p w hd => ?_, fun p hi => ?_⟩, h, rl, hz⟩
  · obtain ⟨v, h1, h2⟩ := p.2.1.get hd
    refine ⟨⟨vs, v, .of p.1, h1⟩, fun x H2 y => ?_⟩
    obtain ⟨rfl, y⟩ := y
    have e := y vs (.of p.1)
    rw [h1] at e
    cases e
    exact ⟨.refl, w, h2⟩
  · exact ⟨vs, .of p.1, by rw [p.2.1.length]; exact hi⟩
theorem itok_own {a : Addr} {vs : List V} {ds : List Py.D} {Z : Addr → Prop} {η : List Addr} (h : H a = some (.lst vs)) (rl : c.RepL H Z η vs ds) (hn : a ∉ η) (hl : ds.length ≤ Py.LIM) : ItOk c false (Itl c.X.K a) ds H Z η := by
  refine ⟨fun H Z η => H a = some (.lst vs) ∧ c.RepL H Z η vs ds ∧ a ∉ η, fun b => b = a, ⟨hl, fun p hp nz ns => ⟨by rw [upd_ne (by rintro rfl; exact ns rfl)]; exact p.1, p.2.1.write hp nz, p.2.2⟩, fun p b e => (by rw [e, p.1]; simp), fun {H1 H2 Z1 Z2 η1 η2 ω1} p w s => ⟨s.keep _ _ p.1 p.2.2, s.repL w p.2.1, fun m => ?_⟩, fun e => (by cases e), fun p w hd => ?_, fun p hi => ?_⟩, h, rl, hn⟩
  · obtain ⟨l, rfl, hl⟩ := s.eta
    rcases List.mem_append.mp m with q | q
    · exact p.2.2 q
    · have := hl _ q
      rw [p.1] at this
      cases this
  · obtain ⟨v, h1, h2⟩ := p.2.1.get hd
    refine ⟨⟨vs, v, .of p.1, h1⟩, fun x H2 y => ?_⟩
    obtain ⟨rfl, y⟩ := y
    have e := y vs (.of p.1)
    rw [h1] at e
    cases e
    exact ⟨.refl, w, h2⟩
  · exact ⟨vs, .of p.1, by rw [p.2.1.length]; exact hi⟩
theorem itok_rng {lo : Int} {n : Nat} {Z : Addr → Prop} {η : List Addr} (hl : n ≤ Py.LIM) : ItOk c fz (Itr lo n) (Py.intsF lo n) H Z η := by
  have len : ∀ (n : Nat) (lo : Int), (Py.intsF lo n).length = n := fun n => by
    induction n with
    | zero => intro lo; rfl
    | succ n ih => intro lo; simp [Py.intsF, ih]
  have get : ∀ (n i : Nat) (lo : Int) (d : Py.D), (Py.intsF lo n)[i]? = some d → i < n ∧ d = .int (lo + i) := fun n => by
    induction n with
    | zero => intro i lo d h; simp [Py.intsF] at h
    | succ n ih =>
      intro i lo d h
      cases i with
      | zero => simp [Py.intsF] at h; subst h; exact ⟨by omega, by simp⟩
      | succ i =>
        obtain ⟨h1, h2⟩ := ih i (lo + 1) d (by simpa [Py.intsF] using h)
        refine ⟨by omega, ?_⟩
        have e : lo + 1 + (i : Int) = lo + ((i + 1 : Nat) : Int) := by push_cast; omega
        rw [h2, e]
  refine ⟨fun _ _ _ => True, fun _ => False, ⟨by rw [len]; exact hl, fun _ _ _ _ => trivial, fun _ _ h => h.elim, fun _ _ _ => trivial, fun _ _ _ _ _ _ _ _ _ => trivial, fun {H1 Z1 η1 ω1 i d} _ w hd => ?_, fun {H1 Z1 η1 i} _ hi => ?_⟩, trivial⟩
  · obtain ⟨h1, rfl⟩ := get n i lo d hd
    refine ⟨h1, fun x H2 y => ?_⟩
    obtain ⟨rfl, rfl⟩ := y
    exact ⟨.refl, w, .int _⟩
  · rw [len] at hi
    exact hi
theorem zip_get : ∀ {xs ys : List Py.D} {i : Nat} {d : Py.D}, (Py.zipD xs ys)[i]? = some d → ∃ x y, xs[i]? = some x ∧ ys[i]? = some y ∧ d = .tup [x, y]
  | [], _, i, d, h => by simp [Py.zipD] at h
  | _ :: _, [], i, d, h => by simp [Py.zipD] at h
  | x :: xs, y :: ys, 0, d, h => by simp [Py.zipD] at h; exact ⟨x, y, rfl, rfl, h.symm⟩
  | x :: xs, y :: ys, i + 1, d, h => by
    obtain ⟨u, v, h1, h2, h3⟩ := zip_get (xs := xs) (ys := ys) (i := i) (by simpa [Py.zipD] using h)
    exact ⟨u, v, by simpa using h1, by simpa using h2, h3⟩
theorem zip_len : ∀ (xs ys : List Py.D), (Py.zipD xs ys).length = min xs.length ys.length
  | [], _ => by simp [Py.zipD]
  | _ :: _, [] => by simp [Py.zipD]
  | x :: xs, y :: ys => by simp only [Py.zipD, List.length_cons, zip_len xs ys]; omega
/-- a source of zip: a list (new, frozen or owned) or a tuple that stands -/
structure SrcP (c : Ct) (fz : Bool) (a : Addr) (ds : List Py.D) (rd : Hp → List V → Prop) (P : Hp → (Addr → Prop) → List Addr → Prop) (S : Addr → Prop) : Prop where
  wr : ∀ {H1 : Hp} {Z1 : Addr → Prop} {η1 : List Addr} {p : Addr} {us us' : List V}, P H1 Z1 η1 → H1 p = some (.lst us) → ¬ Z1 p → ¬ S p → P (upd H1 p (.lst us')) Z1 η1
  sd : ∀ {H1 : Hp} {Z1 : Addr → Prop} {η1 : List Addr}, P H1 Z1 η1 → ∀ b, S b → H1 b ≠ none
  step : ∀ {H1 H2 : Hp} {Z1 Z2 : Addr → Prop} {η1 η2 : List Addr} {ω1 : Py.Store}, P H1 Z1 η1 → c.WI H1 Z1 η1 ω1 → Step H1 Z1 η1 H2 Z2 η2 → P H2 Z2 η2
  grow : fz = true → ∀ {H1 H2 : Hp} {Z1 Z2 : Addr → Prop} {η1 η2 : List Addr}, P H1 Z1 η1 → Grow H1 Z1 η1 H2 Z2 η2 → P H2 Z2 η2
  get : ∀ {H1 : Hp} {Z1 : Addr → Prop} {η1 : List Addr}, P H1 Z1 η1 → ∃ vs, rd H1 vs ∧ c.RepL H1 Z1 η1 vs ds
theorem itok_zip {a b : Addr} {ds es : List Py.D} {Pa Pb : Hp → (Addr → Prop) → List Addr → Prop} {Sa Sb : Addr → Prop} {Z : Addr → Prop} {η : List Addr} (ha : SrcP c fz a ds (fun H => SqL c.X.K H a) Pa Sa) (hb : SrcP c fz b es (fun H => SqL c.X.K H b) Pb Sb) (pa : Pa H Z η) (pb : Pb H Z η) (hl : ds.length ≤ Py.LIM) :
    ItOk c fz (Itz c.X.K a b) (Py.zipD ds es) H Z η := by
  refine ⟨fun H Z η => Pa H Z η ∧ Pb H Z η, fun b => Sa b ∨ Sb b, ⟨by rw [zip_len]; omega, fun p hp nz ns => ⟨ha.wr p.1 hp nz (fun z => ns (.inl z)), hb.wr p.2 hp nz (fun z => ns (.inr z))⟩, fun p b h => h.elim (ha.sd p.1 b) (hb.sd p.2 b), fun p w s => ⟨ha.step p.1 w s, hb.step p.2 w s⟩, fun e {H1 H2 Z1 Z2 η1 η2} p g => ⟨ha.grow e p.1 g, hb.grow e p.2 g⟩, fun {H1 Z1 η1 ω1 i d} p w hd => ?_, fun p hi => ?_⟩, pa, pb⟩
  · obtain ⟨vs, r1, l1⟩ := ha.get p.1
    obtain ⟨us, r2, l2⟩ := hb.get p.2
    obtain ⟨x, y, h1, h2, rfl⟩ := zip_get hd
    obtain ⟨v, g1, q1⟩ := l1.get h1
    obtain ⟨u, g2, q2⟩ := l2.get h2
    refine ⟨⟨vs, us, v, u, r1, r2, g1, g2⟩, fun t H2 yy => ?_⟩
    obtain ⟨T, v', u', rfl, nT, rfl, k1, k2⟩ := yy
    have e1 := (k1 vs r1).symm.trans g1
    have e2 := (k2 us r2).symm.trans g2
    cases e1
    cases e2
    exact ⟨.new nT, Ct.WI.new w nT, Rep.newT ⟨.refl, w⟩ nT (.cons q1 (.one q2))⟩
  · obtain ⟨vs, r1, l1⟩ := ha.get p.1
    obtain ⟨us, r2, l2⟩ := hb.get p.2
    refine ⟨vs, us, r1, r2, ?_⟩
    rw [zip_len] at hi
    rw [l1.length, l2.length]
    omega
theorem itok_zipT {a b : Addr} {ds es : List Py.D} {Pa Pb : Hp → (Addr → Prop) → List Addr → Prop} {Sa Sb : Addr → Prop} {Z : Addr → Prop} {η : List Addr} (ha : SrcP c fz a ds (fun H => SqT c.X.K H a) Pa Sa) (hb : SrcP c fz b es (fun H => SqT c.X.K H b) Pb Sb) (pa : Pa H Z η) (pb : Pb H Z η) (hl : ds.length ≤ Py.LIM) :
    ItOk c fz (RZ.ItzT c.X.K a b) (Py.zipD ds es) H Z η := by
  refine ⟨fun H Z η => Pa H Z η ∧ Pb H Z η, fun b => Sa b ∨ Sb b, ⟨by rw [zip_len]; omega, fun p hp nz ns => ⟨ha.wr p.1 hp nz (fun z => ns (.inl z)), hb.wr p.2 hp nz (fun z => ns (.inr z))⟩, fun p b h => h.elim (ha.sd p.1 b) (hb.sd p.2 b), fun p w s => ⟨ha.step p.1 w s, hb.step p.2 w s⟩, fun e {H1 H2 Z1 Z2 η1 η2} p g => ⟨ha.grow e p.1 g, hb.grow e p.2 g⟩, fun {H1 Z1 η1 ω1 i d} p w hd => ?_, fun p hi => ?_⟩, pa, pb⟩
  · obtain ⟨vs, r1, l1⟩ := ha.get p.1
    obtain ⟨us, r2, l2⟩ := hb.get p.2
    obtain ⟨x, y, h1, h2, rfl⟩ := zip_get hd
    obtain ⟨v, g1, q1⟩ := l1.get h1
    obtain ⟨u, g2, q2⟩ := l2.get h2
    refine ⟨⟨vs, us, v, u, r1, r2, g1, g2⟩, fun t H2 yy => ?_⟩
    obtain ⟨T, v', u', rfl, nT, rfl, k1, k2⟩ := yy
    have e1 := (k1 vs r1).symm.trans g1
    have e2 := (k2 us r2).symm.trans g2
    cases e1
    cases e2
    exact ⟨.new nT, Ct.WI.new w nT, Rep.newT ⟨.refl, w⟩ nT (.cons q1 (.one q2))⟩
  · obtain ⟨vs, r1, l1⟩ := ha.get p.1
    obtain ⟨us, r2, l2⟩ := hb.get p.2
    refine ⟨vs, us, r1, r2, ?_⟩
    rw [zip_len] at hi
    rw [l1.length, l2.length]
    omega
theorem enum_get : ∀ {xs : List Py.D} {j : Int} {i : Nat} {d : Py.D}, (Py.enumD j xs)[i]? = some d → ∃ x, xs[i]? = some x ∧ d = .tup [.int (j + i), x]
  | [], _, i, d, h => by simp [Py.enumD] at h
  | x :: xs, j, 0, d, h => by simp [Py.enumD] at h; exact ⟨x, rfl, by simp [← h]⟩
  | x :: xs, j, i + 1, d, h => by
    obtain ⟨u, h1, h2⟩ := enum_get (xs := xs) (j := j + 1) (i := i) (by simpa [Py.enumD] using h)
    refine ⟨u, by simpa using h1, ?_⟩
    rw [h2]
    have e : j + 1 + (i : Int) = j + ((i + 1 : Nat) : Int) := by push_cast; omega
    rw [e]
theorem enum_len : ∀ (xs : List Py.D) (j : Int), (Py.enumD j xs).length = xs.length
  | [], _ => rfl
  | x :: xs, j => by simp [Py.enumD, enum_len xs]
theorem itok_enum {a : Addr} {ds : List Py.D} {Pa : Hp → (Addr → Prop) → List Addr → Prop} {Sa : Addr → Prop} {Z : Addr → Prop} {η : List Addr} (ha : SrcP c fz a ds (fun H => SqL c.X.K H a) Pa Sa) (pa : Pa H Z η) (hl : ds.length ≤ Py.LIM) :
    ItOk c fz (Ite c.X.K a) (Py.enumD 0 ds) H Z η := by
  refine ⟨Pa, Sa, ⟨by rw [enum_len]; exact hl, ha.wr, ha.sd, ha.step, ha.grow, fun {H1 Z1 η1 ω1 i d} p w hd => ?_, fun p hi => ?_⟩, pa⟩
  · obtain ⟨vs, r1, l1⟩ := ha.get p
    obtain ⟨x, h1, rfl⟩ := enum_get hd
    obtain ⟨v, g1, q1⟩ := l1.get h1
    refine ⟨⟨vs, v, r1, g1⟩, fun t H2 yy => ?_⟩
    obtain ⟨T, v', rfl, nT, rfl, k1⟩ := yy
    have e1 := (k1 vs r1).symm.trans g1
    cases e1
    refine ⟨.new nT, Ct.WI.new w nT, Rep.newT ⟨.refl, w⟩ nT (.cons ?_ (.one q1))⟩
    rw [Int.zero_add]
    exact .int _
  · obtain ⟨vs, r1, l1⟩ := ha.get p
    exact ⟨vs, r1, by rw [l1.length]; rw [enum_len] at hi; exact hi⟩
/-- a value as a source -/
theorem src_tup {a : Addr} {vs : List V} {ds : List Py.D} : SrcP c fz a ds (fun H => SqT c.X.K H a) (fun H Z η => H a = some (.tup vs) ∧ c.RepL H Z η vs ds) (fun _ => False) :=
  ⟨fun p hp nz _ => ⟨by rw [upd_ne (ne_of p.1 hp (by intro z; cases z))]; exact p.1, p.2.write hp nz⟩, fun _ _ h => h.elim, fun p w s => ⟨s.tups _ _ p.1, s.repL w p.2⟩, fun _ _ _ _ _ _ _ p g => ⟨g.keep _ _ p.1 (.inr ⟨_, rfl⟩), g.repL p.2⟩, fun p => ⟨vs, .of p.1, p.2⟩⟩
theorem src_frz {a : Addr} {vs : List V} {ds : List Py.D} : SrcP c fz a ds (fun H => SqL c.X.K H a) (fun H Z η => H a = some (.lst vs) ∧ c.RepL H Z η vs ds ∧ Z a) (fun _ => False) :=
  ⟨fun p hp nz _ => ⟨by rw [upd_ne (by rintro rfl; exact nz p.2.2)]; exact p.1, p.2.1.write hp nz, p.2.2⟩, fun _ _ h => h.elim, fun p w s => ⟨s.keep _ _ p.1 (w.zη _ p.2.2), s.repL w p.2.1, s.zz _ p.2.2⟩, fun _ _ _ _ _ _ _ p g => ⟨g.keep _ _ p.1 (.inl p.2.2), g.repL p.2.1, g.zz _ p.2.2⟩, fun p => ⟨vs, .of p.1, p.2.1⟩⟩
theorem src_own {a : Addr} {vs : List V} {ds : List Py.D} : SrcP c false a ds (fun H => SqL c.X.K H a) (fun H Z η => H a = some (.lst vs) ∧ c.RepL H Z η vs ds ∧ a ∉ η) (fun b => b = a) :=
  ⟨fun p hp nz ns => ⟨by rw [upd_ne (by rintro rfl; exact ns rfl)]; exact p.1, p.2.1.write hp nz, p.2.2⟩, fun p b e => (by rw [e, p.1]; simp), fun {H1 H2 Z1 Z2 η1 η2 ω1} p w s => ⟨s.keep _ _ p.1 p.2.2, s.repL w p.2.1, fun m => by
    obtain ⟨l, rfl, hl⟩ := s.eta
    rcases List.mem_append.mp m with q | q
    · exact p.2.2 q
    · have := hl _ q
      rw [p.1] at this
      cases this⟩, fun e => (by cases e), fun p => ⟨vs, .of p.1, p.2.1⟩⟩
/-- operands: a value, or the list that slot i owns -/
def OpK (fz : Bool) (k : Kd) : Prop := k = .val ∨ (fz = false ∧ ∃ i, k = .pk i)
theorem ResR.src {r : Py.Env} {v : V} {ds : List Py.D} {Z1 : Addr → Prop} {η1 : List Addr} {ω1 : Py.Store} {Hb : Hp} (hk : OpK fz k) (e : c.Env σ r H1 Z1 η1 ω1) (q : ResR c k r σ Hb H1 Z1 η1 v (.lst ds)) :
    ∃ a vs P S, v = .ref a ∧ H1 a = some (.lst vs) ∧ SrcP c fz a ds (fun H => SqL c.X.K H a) P S ∧ P H1 Z1 η1 ∧ c.RepL H1 Z1 η1 vs ds := by
  rcases hk with rfl | ⟨rfl, i, rfl⟩
  · cases (show PyS.Rep c.X.K c.fA H1 Z1 η1 v (.lst ds) from q) with
    | lst z h rl => exact ⟨_, _, _, _, rfl, h, src_frz, ⟨h, rl, z⟩, rl⟩
  · obtain ⟨h, ds', e1, e2⟩ := q
    cases e2
    obtain ⟨p, e2, vs, hp, rl, nz, nη, _⟩ := e.sl.own i ds e1
    rw [h] at e2
    cases e2
    exact ⟨p, vs, _, _, rfl, hp, src_own, ⟨hp, rl, nη⟩, rl⟩
theorem ResR.itok {r : Py.Env} {v : V} {ds : List Py.D} {Z1 : Addr → Prop} {η1 : List Addr} {ω1 : Py.Store} {Hb : Hp} (hk : OpK fz k) (e : c.Env σ r H1 Z1 η1 ω1) (q : ResR c k r σ Hb H1 Z1 η1 v (.lst ds)) :
    ∃ a vs, v = .ref a ∧ H1 a = some (.lst vs) ∧ c.RepL H1 Z1 η1 vs ds ∧ (ds.length ≤ Py.LIM → ItOk c fz (Itl c.X.K a) ds H1 Z1 η1) := by
  rcases hk with rfl | ⟨rfl, i, rfl⟩
  · cases (show PyS.Rep c.X.K c.fA H1 Z1 η1 v (.lst ds) from q) with
    | lst z h rl => exact ⟨_, _, rfl, h, rl, fun hl => itok_frz h rl z hl⟩
  · obtain ⟨h, ds', e1, e2⟩ := q
    cases e2
    obtain ⟨p, e2, vs, hp, rl, nz, nη, _⟩ := e.sl.own i ds e1
    rw [h] at e2
    cases e2
    exact ⟨p, vs, rfl, hp, rl, fun hl => itok_own hp rl nη hl⟩
theorem ResR.tup {r : Py.Env} {v : V} {ds : List Py.D} {Z1 : Addr → Prop} {η1 : List Addr} {Hb : Hp} (hk : OpK fz k) (q : ResR c k r σ Hb H1 Z1 η1 v (.tup ds)) : ∃ a vs, v = .ref a ∧ H1 a = some (.tup vs) ∧ c.RepL H1 Z1 η1 vs ds := by
  rcases hk with rfl | ⟨rfl, i, rfl⟩
  · cases (show PyS.Rep c.X.K c.fA H1 Z1 η1 v (.tup ds) from q) with
    | tup h rl => exact ⟨_, _, rfl, h, rl⟩
  · obtain ⟨_, _, _, e2⟩ := q
    cases e2
/-! ### the walked expressions -/
theorem ji_seq {tg a : Expr} {m : Py.Env → Py.M Py.D} (hk : OpK fz k) (ha : JE c k a m) : JI c fz tg a (fun r => Py.bnd (m r) fun x => Py.lif (Py.itD x)) := by
  refine PI.imp (pi_seq ha) fun σ H R h => tE.mono h.bnd fun v H1 ⟨Z, η, Z1, η1, ω1, r, d, e, n, q, h⟩ => ?_
  cases hd : Py.itD d with
  | none => rw [hd] at h; exact h.elim
  | some ds =>
    rw [hd] at h
    cases d <;> (try (simp [Py.itD] at hd; done))
    case str cs =>
      simp only [Py.itD] at hd
      split at hd
      case isFalse => cases hd
      case isTrue hl =>
        cases hd
        obtain ⟨rfl, hc⟩ := (q.view e).str
        exact .inr (.inr ⟨_, rfl, h _ _ Z1 η1 n (itok_str hc hl)⟩)
    case tup xs =>
      simp only [Py.itD, Option.some.injEq] at hd
      subst hd
      obtain ⟨a, vs, rfl, h1, rl⟩ := q.tup hk
      exact .inr (.inl ⟨a, vs, rfl, .of h1, fun hl => h _ _ Z1 η1 n (itok_tup h1 rl (by rw [← rl.length, lim_eq]; exact hl))⟩)
    case lst xs =>
      simp only [Py.itD, Option.some.injEq] at hd
      subst hd
      obtain ⟨a, vs, rfl, h1, rl, ok⟩ := q.itok hk e
      exact .inl ⟨a, vs, rfl, .of h1, fun hl => h _ _ Z1 η1 n (ok (by rw [← rl.length, lim_eq]; exact hl))⟩
theorem rng_bounds {i j : Int} (h : Py.rngOk i j = true) : (-(2 ^ 62) ≤ i ∧ i < 2 ^ 62 ∧ -(2 ^ 62) ≤ j ∧ j < 2 ^ 62) ∧ j - i ≤ 16777216 := by
  unfold Py.rngOk at h
  simp only [Bool.and_eq_true, decide_eq_true_eq] at h
  omega
theorem ji_rng1 {tg a : Expr} {p pos : Pos} {m : Py.Env → Py.M Py.D} (ha : JE c k a m) (hg : Gl c.X "range") (hm : c.X.mg "range" = none) (hs : starEach [a] c.X.env = [(false, eval a c.X.env)]) :
    JI c fz tg (.Call (.Name "range" p) [a] [] pos) (fun r => Py.bnd (m r) fun x => Py.lif ((Py.asInt x).bind fun j => Py.rngD 0 j)) := by
  refine PI.imp (pi_range1 hg hm (pa_cons ha pa_nil hs) hs) fun σ H R h => tE.mono h.bnd fun v H1 ⟨Z, η, Z1, η1, ω1, r, d, e, n, q, h⟩ => ?_
  replace h : postI c fz σ H Z η R (Py.lif ((Py.asInt d).bind fun j => Py.rngD 0 j) ω1) := h
  cases hd : (Py.asInt d).bind fun j => Py.rngD 0 j with
  | none => rw [hd] at h; exact h.elim
  | some ds =>
    rw [hd] at h
    obtain ⟨j, h1, h2⟩ := Option.bind_eq_some_iff.mp hd
    obtain rfl := asInt_some h1
    unfold Py.rngD at h2
    split at h2
    case isFalse => cases h2
    case isTrue hb =>
      cases h2
      have hb := rng_bounds hb
      have := (q.view e).int
      subst this
      refine ⟨j, rfl, hb.1.2.2.1, hb.1.2.2.2, h _ _ Z1 η1 n ?_⟩
      rw [show j - 0 = j by omega]
      exact itok_rng (by show j.toNat ≤ 16777216; omega)
theorem ji_rng2 {tg a b : Expr} {p pos : Pos} {m mb : Py.Env → Py.M Py.D} (ha : JE c ka a m) (hb : JE c kb b mb) (hg : Gl c.X "range") (hm : c.X.mg "range" = none) (hs : starEach [a, b] c.X.env = [(false, eval a c.X.env), (false, eval b c.X.env)]) (hs2 : starEach [b] c.X.env = [(false, eval b c.X.env)]) :
    JI c fz tg (.Call (.Name "range" p) [a, b] [] pos) (fun r => Py.bnd (m r) fun x => Py.bnd (mb r) fun y => Py.lif ((Py.asInt x).bind fun i => (Py.asInt y).bind fun j => Py.rngD i j)) := by
  refine PI.imp (pi_range2 hg hm (pa_cons ha (pa_cons hb pa_nil hs2) (by rw [hs, hs2])) hs hs2) fun σ H R h => tE.mono h.bnd fun v H1 ⟨Z, η, Z1, η1, ω1, r, d, e, n, q, h⟩ => ?_
  refine ⟨Z1, η1, ω1, r, e, ?_⟩
  replace h : postI c fz σ H Z η R (Py.bnd (mb r) (fun y => Py.lif ((Py.asInt d).bind fun i => (Py.asInt y).bind fun j => Py.rngD i j)) ω1) := h
  unfold Py.bnd at h
  cases hmb : mb r ω1 with
  | stuck => rw [hmb] at h; exact h
  | exc x ω' => rw [hmb] at h; exact fun H' Z' η' a n2 ha => h H' Z' η' a (n.trans n2) ha
  | ok d2 ω' =>
    rw [hmb] at h
    intro u H2 Z2 η2 n2 q2
    replace h : postI c fz σ H Z η R (Py.lif ((Py.asInt d).bind fun i => (Py.asInt d2).bind fun j => Py.rngD i j) ω') := h
    cases hd : (Py.asInt d).bind fun i => (Py.asInt d2).bind fun j => Py.rngD i j with
    | none => rw [hd] at h; exact h.elim
    | some ds =>
      rw [hd] at h
      obtain ⟨i, h1, h2⟩ := Option.bind_eq_some_iff.mp hd
      obtain ⟨j, h3, h4⟩ := Option.bind_eq_some_iff.mp h2
      obtain rfl := asInt_some h1
      obtain rfl := asInt_some h3
      unfold Py.rngD at h4
      split at h4
      case isFalse => cases h4
      case isTrue hb =>
        cases h4
        have hb := rng_bounds hb
        have e1 := (q.view e).int
        have e2 := (q2.view (e.step n2.s n2.w)).int
        subst e1 e2
        exact ⟨i, j, rfl, hb.1, h _ _ Z2 η2 (n.trans n2) (itok_rng (by show (j - i).toNat ≤ 16777216; omega))⟩
theorem zip_case {d d2 : Py.D} {ds : List Py.D} (h : Py.zipDD d d2 = some ds) : (∃ xs ys, d = .lst xs ∧ d2 = .lst ys ∧ ds = Py.zipD xs ys ∧ xs.length ≤ Py.LIM) ∨ (∃ xs ys, d = .tup xs ∧ d2 = .tup ys ∧ ds = Py.zipD xs ys ∧ xs.length ≤ Py.LIM) := by
  unfold Py.zipDD at h
  split at h
  · split at h
    case isFalse => cases h
    case isTrue hl => cases h; exact .inl ⟨_, _, rfl, rfl, rfl, hl⟩
  · split at h
    case isFalse => cases h
    case isTrue hl => cases h; exact .inr ⟨_, _, rfl, rfl, rfl, hl⟩
  · cases h
theorem ji_zip {a b : Expr} {elts : List Expr} {kk : Nat} {p pos tpos : Pos} {m mb : Py.Env → Py.M Py.D} (hka : OpK fz ka) (hkb : OpK fz kb) (ha : JE c ka a m) (hb : JE c kb b mb) (hg : Gl c.X "zip") (hm : c.X.mg "zip" = none) (hs : starEach [a, b] c.X.env = (false, eval a c.X.env) :: starEach [b] c.X.env)
    (hs2 : starEach [b] c.X.env = (false, eval b c.X.env) :: starEach [] c.X.env) (hpl : (backTo pos (starEach [b] c.X.env)).any (·.1) = false) :
    JI c fz (.Tuple elts kk tpos) (.Call (.Name "zip" p) [a, b] [] pos) (fun r => Py.bnd (m r) fun x => Py.bnd (mb r) fun y => Py.lif (Py.zipDD x y)) := by
  refine PI.imp (RZ.pi_zipA hg hm (pa_cons ha (pa_cons hb pa_nil hs2) hs) hs hpl) fun σ H R h => tE.mono h.bnd fun v H1 ⟨Z, η, Z1, η1, ω1, r, d, e, n, q, h⟩ => ?_
  refine ⟨Z1, η1, ω1, r, e, ?_⟩
  replace h : postI c fz σ H Z η R (Py.bnd (mb r) (fun y => Py.lif (Py.zipDD d y)) ω1) := h
  unfold Py.bnd at h
  cases hmb : mb r ω1 with
  | stuck => rw [hmb] at h; exact h
  | exc x ω' => rw [hmb] at h; exact fun H' Z' η' a n2 ha => h H' Z' η' a (n.trans n2) ha
  | ok d2 ω' =>
    rw [hmb] at h
    intro u H2 Z2 η2 n2 q2
    replace h : postI c fz σ H Z η R (Py.lif (Py.zipDD d d2) ω') := h
    cases hd : Py.zipDD d d2 with
    | none => rw [hd] at h; exact h.elim
    | some ds =>
      rw [hd] at h
      have e2 := e.step n2.s n2.w
      have q1 := q.step e.w n2.s
      rcases zip_case hd with ⟨xs, ys, rfl, rfl, rfl, hl⟩ | ⟨xs, ys, rfl, rfl, rfl, hl⟩
      · obtain ⟨a1, vs1, P1, S1, rfl, g1, s1, p1, l1⟩ := q1.src hka e2
        obtain ⟨a2, vs2, P2, S2, rfl, g2, s2, p2, l2⟩ := q2.src hkb e2
        exact ⟨a1, a2, vs1, vs2, rfl, .inl ⟨.of g1, .of g2, h _ _ Z2 η2 (n.trans n2) (itok_zip s1 s2 p1 p2 hl)⟩⟩
      · obtain ⟨a1, vs1, rfl, g1, l1⟩ := q1.tup hka
        obtain ⟨a2, vs2, rfl, g2, l2⟩ := q2.tup hkb
        exact ⟨a1, a2, vs1, vs2, rfl, .inr ⟨.of g1, .of g2, h _ _ Z2 η2 (n.trans n2) (itok_zipT src_tup src_tup ⟨g1, l1⟩ ⟨g2, l2⟩ hl)⟩⟩
theorem ji_enum {a : Expr} {elts : List Expr} {kk : Nat} {p pos tpos : Pos} {m : Py.Env → Py.M Py.D} (hk : OpK fz k) (ha : JE c k a m) (hg : Gl c.X "enumerate") (hm : c.X.mg "enumerate" = none) (hs : starEach [a] c.X.env = [(false, eval a c.X.env)]) :
    JI c fz (.Tuple elts kk tpos) (.Call (.Name "enumerate" p) [a] [] pos) (fun r => Py.bnd (m r) fun x => Py.lif (Py.enumDD x)) := by
  refine PI.imp (pi_enum hg hm (pa_cons ha pa_nil hs) hs) fun σ H R h => tE.mono h.bnd fun v H1 ⟨Z, η, Z1, η1, ω1, r, d, e, n, q, h⟩ => ?_
  cases hd : Py.enumDD d with
  | none => rw [hd] at h; exact h.elim
  | some ds =>
    rw [hd] at h
    unfold Py.enumDD at hd
    split at hd
    · split at hd
      case isFalse => cases hd
      case isTrue hl =>
        cases hd
        obtain ⟨a1, vs1, P1, S1, rfl, g1, s1, p1, l1⟩ := q.src hk e
        exact ⟨a1, vs1, rfl, .of g1, h _ _ Z1 η1 n (itok_enum s1 p1 hl)⟩
    · cases hd
end
end PyS
end
section
namespace PyS
open PySem PySem.Spec PyProof.Rows L2
section
variable {c : Ct} {k ka kb : Kd} {σ : L2.St} {r : Py.Env} {H H1 : Hp} {Z Z1 : Addr → Prop} {η η1 : List Addr} {ω ω1 : Py.Store} {p : Addr} {us us' : List V}
/-- a list of ours that is nobody's value is written -/
theorem Ct.WI.write (w : c.WI H Z η ω) (hp : H p = some (.lst us)) (nz : ¬ Z p) (nη : p ∉ η) : c.WI (upd H p (.lst us')) Z η ω := by
  have there : ∀ b, H b ≠ none → upd H p (.lst us') b ≠ none := fun b h => by
    by_cases e : b = p
    · subst e; rw [upd_same]; simp
    · rw [upd_ne e]; exact h
  refine ⟨w.zη, fun b h => there b (w.zd b h), fun b h => there b (w.ηd b h), w.nd, w.len, fun n xs e => ?_⟩
  obtain ⟨a, vs, e1, e2, e3⟩ := w.cell n xs e
  exact ⟨a, vs, e1, by rw [upd_ne (by rintro rfl; exact nη (List.mem_of_getElem? e1))]; exact e2, e3.map fun r => r.write hp nz⟩
theorem Step.write {H0 : Hp} {Z0 : Addr → Prop} {η0 : List Addr} (s : Step H0 Z0 η0 H Z η) (hp : H p = some (.lst us)) (h0 : H0 p = none) : Step H0 Z0 η0 (upd H p (.lst us')) Z η := by
  refine ⟨fun b o h hn => ?_, fun b xs h => ?_, fun b h => ?_, s.zz, s.nz, s.eta⟩
  · rw [upd_ne (ne_of_none h h0)]; exact s.keep b o h hn
  · rw [upd_ne (ne_of_none h h0)]; exact s.tups b xs h
  · by_cases e : b = p
    · subst e; rw [upd_same]; simp
    · rw [upd_ne e]; exact s.there b h
theorem Ct.Env.write (e : c.Env σ r H Z η ω) (hp : H p = some (.lst us)) (nz : ¬ Z p) (nη : p ∉ η) (h0 : c.H0 p = none) (ha : ∀ (j : Nat) ds, r[j]? = some (.o ds) → σ[j]? ≠ some (some (.ref p))) : c.Env σ r (upd H p (.lst us')) Z η ω := by
  refine ⟨Ct.WI.write e.w hp nz nη, Step.write e.s0 hp h0, ⟨e.sl.len, fun i d h => ?_, fun i ds h => ?_, e.sl.apart, e.sl.xs⟩⟩
  · obtain ⟨v, h1, h2⟩ := e.sl.val i d h
    exact ⟨v, h1, h2.write hp nz⟩
  · obtain ⟨q, h1, vs, h2, rl, nz', nη', h0'⟩ := e.sl.own i ds h
    have ne : q ≠ p := by rintro rfl; exact ha i ds h h1
    exact ⟨q, h1, vs, by rw [upd_ne ne]; exact h2, rl.write hp nz, nz', nη', h0'⟩
/-- an owned list stands apart from a new place -/
theorem Ct.Env.ownNe (e : c.Env σ r H Z η ω) (hp : H p = none) : ∀ (j : Nat) ds, r[j]? = some (.o ds) → σ[j]? ≠ some (some (.ref p)) := fun j ds h q => by
  obtain ⟨p', h1, vs, h2, _⟩ := e.sl.own j ds h
  rw [q] at h1
  cases h1
  rw [hp] at h2
  cases h2
/-! ### comprehensions -/
theorem wipe_get {j : Nat} : ∀ {is : List Nat} {σ : L2.St}, (wipe σ is)[j]? = if j ∈ is ∧ j < σ.length then some none else σ[j]?
  | [], σ => by simp [wipe]
  | i :: is, σ => by
    unfold wipe
    by_cases e : j = i
    · subst e
      by_cases hl : j < σ.length
      · rw [List.getElem?_set_self (by rw [wipe_length]; exact hl), if_pos ⟨by simp, hl⟩]
      · rw [List.getElem?_eq_none (by simp [wipe_length]; omega), if_neg (fun h => hl h.2)]
        rw [List.getElem?_eq_none (by omega)]
    · rw [List.getElem?_set_ne (Ne.symm e), wipe_get]
      simp [e]
theorem wipe_again {is : List Nat} {σ σ2 : L2.St} (hl : σ2.length = σ.length) (h : ∀ (i : Nat), i ∉ is → σ2[i]? = (wipe σ is)[i]?) : wipe σ2 is = wipe σ is := by
  apply List.ext_getElem?
  intro j
  rw [wipe_get, wipe_get, hl]
  by_cases hj : j ∈ is
  · by_cases hlt : j < σ.length
    · simp [hj, hlt]
    · simp only [hj, hlt, and_false, if_false]
      rw [List.getElem?_eq_none (by omega), List.getElem?_eq_none (by omega)]
  · simp only [hj, false_and, if_false]
    rw [h j hj, wipe_get]
    simp [hj]
theorem Ct.Env.wipe (e : c.Env σ r H Z η ω) (t : Py.Tgt) : c.Env (L2.wipe σ (tgtIs t)) (Py.wipeT r t) H Z η ω := by
  have go : ∀ is : List Nat, c.Env (L2.wipe σ is) (is.foldr (fun i r => r.set i .none) r) H Z η ω := fun is => by
    induction is with
    | nil => exact e
    | cons i is ih => exact ih.setN
  cases t with
  | nm i => exact go [i]
  | tp is => exact go is
/-- a comprehension's turn -/
def cStep (t : Py.Tgt) (mt : Py.Env → Py.M Bool) (me : Py.Env → Py.M Py.D) (r : Py.Env) (x : Py.D) : Py.M (Option Py.D) :=
  Py.noexc (Py.bnd (Py.lif (Py.bindT (Py.wipeT r t) t x)) fun r' => Py.bnd (mt r') fun k => if k = true then Py.bnd (me r') fun y => Py.ret (some y) else Py.ret none)
abbrev Ct.still (c : Ct) : Ct := { c with W := fun _ _ _ _ => False }
theorem compM_noexc {t : Py.Tgt} {mt : Py.Env → Py.M Bool} {me : Py.Env → Py.M Py.D} {r : Py.Env} : ∀ {xs : List Py.D} {ω : Py.Store} {x : Nat} {ω' : Py.Store}, Py.compM xs (cStep t mt me r) ω ≠ .exc x ω'
  | [], ω, x, ω' => by simp [Py.compM, Py.ret]
  | d :: xs, ω, x, ω' => by
    simp only [Py.compM, Py.bnd]
    cases h1 : cStep t mt me r d ω with
    | stuck => simp
    | exc y w =>
      exfalso
      unfold cStep Py.noexc at h1
      split at h1 <;> cases h1
    | ok o w =>
      simp only
      have ih := compM_noexc (t := t) (mt := mt) (me := me) (r := r) (xs := xs) (ω := w) (x := x) (ω' := ω')
      cases h2 : Py.compM xs (cStep t mt me r) w with
      | stuck => simp
      | exc y w2 =>
        simp only
        rw [h2] at ih
        exact ih
      | ok ys w2 => simp [Py.ret]
theorem cStep_ok {t : Py.Tgt} {mt : Py.Env → Py.M Bool} {me : Py.Env → Py.M Py.D} {d : Py.D} {o : Option Py.D} {ω' : Py.Store} (h : cStep t mt me r d ω = .ok o ω') :
    ∃ r' k ωk, Py.bindT (Py.wipeT r t) t d = some r' ∧ mt r' ω = .ok k ωk ∧ ((k = true ∧ ∃ y, me r' ωk = .ok y ω' ∧ o = some y) ∨ (k = false ∧ o = none ∧ ω' = ωk)) := by
  unfold cStep Py.noexc at h
  cases hb : Py.bindT (Py.wipeT r t) t d with
  | none => rw [hb] at h; simp [Py.lif, Py.bnd, Py.fail] at h
  | some r' =>
    rw [hb] at h
    simp only [Py.lif_some, Py.bnd_ret] at h
    simp only [Py.bnd] at h
    cases hm : mt r' ω with
    | stuck => rw [hm] at h; simp at h
    | exc x w => rw [hm] at h; simp at h
    | ok k ωk =>
      rw [hm] at h
      cases k with
      | false =>
        simp only [Bool.false_eq_true, if_false, Py.ret] at h
        cases h
        exact ⟨r', false, ω', rfl, hm, .inr ⟨rfl, rfl, rfl⟩⟩
      | true =>
        simp only [if_true, Py.bnd] at h
        cases hy : me r' ωk with
        | stuck => rw [hy] at h; simp at h
        | exc x w => rw [hy] at h; simp at h
        | ok y w =>
          rw [hy] at h
          simp only [Py.ret] at h
          cases h
          exact ⟨r', true, ωk, rfl, hm, .inl ⟨rfl, y, hy, rfl⟩⟩
/-- THE COMPREHENSION: from its data to the layer's reading -/
theorem comp_t {t : Py.Tgt} {mi : Py.Env → Py.M (List Py.D)} {mt : Py.Env → Py.M Bool} {me : Py.Env → Py.M Py.D} {Q : VK} (h : tE c .frs (fun r => Py.bnd (mi r) fun xs => Py.bnd (Py.compM xs (cStep t mt me r)) fun ys => Py.ret (.lst ys)) σ H Q) : tLc (tI c false mi) (gOf c.X.K t) (tT c.still mt) (tE c.still .val me) (tgtIs t) σ H Q := by
  obtain ⟨Z, η, ω, r, e, h⟩ := h
  refine ⟨Z, η, ω, r, e, ?_⟩
  simp only [Py.bnd] at h
  cases hm : mi r ω with
  | stuck => rw [hm] at h; exact h
  | exc x ω' => rw [hm] at h; exact h
  | ok ds ω1 =>
    rw [hm] at h
    intro J H1 Z1 η1 n1 hit D hD
    obtain ⟨P, S, ok, hP⟩ := hit
    dsimp only at h
    have e1 := e.step n1.s n1.w
    have hDz := Ct.WI.znone n1.w hD
    have hSD : ¬ S D := fun z => ok.sd hP D z hD
    have hown := Ct.Env.ownNe e1 hD
    have h0D : c.H0 D = none := by
      cases q : c.H0 D with
      | none => rfl
      | some u => exact absurd hD (e1.s0.there D (by rw [q]; simp))
    cases hc : Py.compM ds (cStep t mt me r) ω1 with
    | stuck => rw [hc] at h; exact h.elim
    | exc x ω' => exact absurd hc compM_noexc
    | ok zs0 ωf0 =>
      rw [hc] at h
      replace h : ∀ v H' Z' η', c.Nx H Z η H' Z' η' ωf0 → ResR c .frs r σ H H' Z' η' v (.lst zs0) → Q v H' := h
      let Inv : Nat → Hp → Prop := fun i Hh => ∃ Z2 η2 ω2 acc ys zs, c.Env σ r Hh Z2 η2 ω2 ∧ Step H Z η Hh Z2 η2 ∧ P Hh Z2 η2 ∧ Hh D = some (.lst acc) ∧ c.RepL Hh Z2 η2 acc ys ∧ ¬ Z2 D ∧ D ∉ η2 ∧ acc.length ≤ i ∧
        Py.compM (ds.drop i) (cStep t mt me r) ω2 = .ok zs ωf0 ∧ ys ++ zs = zs0
      refine ⟨fun i m Hh => m = ds.length - i ∧ i ≤ ds.length ∧ Inv i Hh, ⟨ds.length, by simp, Nat.zero_le _, ?_⟩, ?_⟩
      · have e2 : c.Env σ r (upd H1 D (.lst [])) Z1 η1 ω1 := e1.step (.new hD) (Ct.WI.new n1.w hD)
        exact ⟨Z1, η1, ω1, [], [], zs0, e2, n1.s.trans (.new hD), ok.step hP n1.w (.new hD), upd_same, .nil, hDz.1, hDz.2, Nat.le_refl _, hc, rfl⟩
      · rintro i m Hh ⟨rfl, hi, Z2, η2, ω2, acc, ys, zs, e2, s2, p2, hacc, rl, nz, nη, hlen, hrun, hall⟩
        by_cases hlt : i < ds.length
        · have hd : ds[i]? = some ds[i] := List.getElem?_eq_getElem hlt
          rw [List.drop_eq_getElem_cons hlt] at hrun
          simp only [Py.compM, Py.bnd] at hrun
          obtain ⟨hgo, hy⟩ := ok.go p2 e2.w hd
          cases hst : cStep t mt me r ds[i] ω2 with
          | stuck => rw [hst] at hrun; simp at hrun
          | exc x w => rw [hst] at hrun; simp at hrun
          | ok o ω3 =>
            rw [hst] at hrun
            simp only at hrun
            cases hrest : Py.compM (ds.drop (i + 1)) (cStep t mt me r) ω3 with
            | stuck => rw [hrest] at hrun; simp at hrun
            | exc x w => rw [hrest] at hrun; simp at hrun
            | ok zs1 ω4 =>
              rw [hrest] at hrun
              simp only [Py.ret] at hrun
              obtain ⟨r', kk, ωk, hb, hmt, hcase⟩ := cStep_ok hst
              refine .inr ⟨hgo, Inv (i + 1), fun H' p' => ⟨ds.length - (i + 1), by omega, rfl, hlt, p'⟩, fun x H' hyld => ?_⟩
              obtain ⟨s3, w3, rx⟩ := hy x H' hyld
              have e3 := e2.step s3 w3
              refine tu (c := c.still) (show c.still.Env _ _ H' Z2 η2 ω2 from Ct.Env.wipe e3 t) rx hb fun σ' e4 hk hl => ⟨wipe_again (by rw [hl, wipe_length]) hk, ?_⟩
              refine ⟨Z2, η2, ω2, r', e4, ?_⟩
              rw [hmt]
              intro H3 Z3 η3 n3
              have e5 := e3.step n3.s n3.w
              have hacc3 : H3 D = some (.lst acc) := n3.s.keep _ _ (s3.keep _ _ hacc nη) nη
              have stepD : ∀ {Ha Hb : Hp} {Za Zb : Addr → Prop} {ηa ηb : List Addr}, Step Ha Za ηa Hb Zb ηb → Ha D ≠ none → ¬ Za D → D ∉ ηa → ¬ Zb D ∧ D ∉ ηb := fun {Ha Hb Za Zb ηa ηb} s hn hz hη => by
                refine ⟨fun z => ?_, fun m => ?_⟩
                · rcases s.nz D z with q | q
                  · exact hz q
                  · exact hn q
                · obtain ⟨l, rfl, hl⟩ := s.eta
                  rcases List.mem_append.mp m with q | q
                  · exact hη q
                  · exact hn (hl D q)
              have hH' : H' D = some (.lst acc) := s3.keep _ _ hacc nη
              obtain ⟨nz3, nη3⟩ := stepD n3.s (by rw [hH']; simp) nz nη
              have p3 := ok.step (ok.step p2 e2.w s3) w3 n3.s
              rcases hcase with ⟨rfl, y, hme, rfl⟩ | ⟨rfl, rfl, rfl⟩
              · rw [if_pos rfl]
                refine ⟨Z3, η3, ωk, r', e4.step n3.s n3.w, ?_⟩
                rw [hme]
                intro v H4 Z4 η4 n4 q4
                have hacc4 : H4 D = some (.lst acc) := n4.s.keep _ _ hacc3 nη3
                obtain ⟨nz4, nη4⟩ := stepD n4.s (by rw [hacc3]; simp) nz3 nη3
                have hz : acc.length < sizeLine := by
                  have := ok.len
                  rw [← lim_eq]
                  omega
                refine ⟨acc, hacc4, hz, ?_⟩
                have e6 := e5.step n4.s n4.w
                have s6 := ((s2.trans s3).trans n3.s).trans n4.s
                have hHD : H D = none := n1.none hD
                have p4 := ok.step p3 n3.w n4.s
                have rl4 := n4.s.repL n3.w (n3.s.repL w3 (s3.repL e2.w rl))
                refine ⟨Z4, η4, ω3, acc ++ [v], ys ++ [y], zs1, Ct.Env.write e6 hacc4 nz4 nη4 h0D hown, s6.write hacc4 hHD, ok.wr p4 hacc4 nz4 hSD, upd_same, ((rl4.append (.one q4)).write hacc4 nz4), nz4, nη4, by simp; omega, ?_, ?_⟩
                · simp only at hrun
                  cases hrun
                  exact hrest
                · simp only at hrun
                  cases hrun
                  rw [← hall]
                  simp
              · rw [if_neg (by decide)]
                refine ⟨Z3, η3, ω3, acc, ys, zs1, e5, (s2.trans s3).trans n3.s, p3, hacc3, n3.s.repL w3 (s3.repL e2.w rl), nz3, nη3, by omega, ?_, ?_⟩
                · simp only at hrun
                  cases hrun
                  exact hrest
                · simp only at hrun
                  cases hrun
                  exact hall
        · have hie : i = ds.length := by omega
          refine .inl ⟨ok.stop p2 (by omega), ?_⟩
          rw [hie, List.drop_length] at hrun
          simp only [Py.compM, Py.ret] at hrun
          cases hrun
          rw [List.append_nil] at hall
          subst hall
          exact h (.ref D) Hh Z2 η2 ⟨s2, e2.w⟩ (.inl ⟨D, acc, ys, rfl, rfl, n1.none hD, hacc, rl, nz, nη⟩)
end
end PyS
end
section
namespace PyS
open PySem PySem.Spec PyProof.Rows L2
/-! ### statements -/
def postS (c : Ct) (H : Hp) (Z : Addr → Prop) (η : List Addr) (D : Ends) (res : Py.SRes) : Prop := match res with
  | .nx r' ω' => ∀ σ' H' Z' η', c.Env σ' r' H' Z' η' ω' → Grow H Z η H' Z' η' → D.nx σ' H'
  | .rt d ω' => ∀ v H' Z' η', Step c.H0 c.Z0 c.η0 H' Z' η' → c.WI H' Z' η' ω' → c.Rep H' Z' η' v d → D.rt v H'
  | .ex x r' ω' => ∀ σ' H' Z' η' a, c.Env σ' r' H' Z' η' ω' → Grow H Z η H' Z' η' → c.eA x = some a → c.W (.ref a) none σ' H'
  | .stuck => False
def tS (c : Ct) (m : Py.Env → Py.SM) : TS := fun D σ H => ∃ Z η ω r, c.Env σ r H Z η ω ∧ postS c H Z η D (m r ω)
def JS (c : Ct) (st : Stmt) (m : Py.Env → Py.SM) : Prop := PS c.X st (tS c m)
def JSs (c : Ct) (st : List Stmt) (m : Py.Env → Py.SM) : Prop := PSs c.X st (tS c m)
theorem PS.imp {X : Cx} {st : Stmt} {t t' : TS} (h : PS X st t) (i : ∀ D σ H, t' D σ H → t D σ H) : PS X st t' := ⟨fun pins s σ H D I q => h.run pins s σ H D I (i D σ H q)⟩
theorem PSs.imp {X : Cx} {st : List Stmt} {t t' : TS} (h : PSs X st t) (i : ∀ D σ H, t' D σ H → t D σ H) : PSs X st t' := ⟨fun pins s σ H D I q => h.run pins s σ H D I (i D σ H q)⟩
section
variable {c : Ct} {k ka kb : Kd} {σ : L2.St} {r : Py.Env} {H H1 H2 : Hp} {Z Z1 : Addr → Prop} {η η1 : List Addr} {ω ω1 : Py.Store} {D : Ends} {v : V} {d : Py.D}
theorem postS.grow {res : Py.SRes} (h : postS c H Z η D res) (g : Grow H Z η H1 Z1 η1) : postS c H1 Z1 η1 D res := by
  cases res with
  | stuck => exact h
  | nx r' ω' => exact fun σ' H' Z' η' e g' => h σ' H' Z' η' e (g.trans g')
  | rt d ω' => exact h
  | ex x r' ω' => exact fun σ' H' Z' η' a e g' ha => h σ' H' Z' η' a e (g.trans g') ha
/-- an expression, then what is done with its value -/
theorem tS.bndE {m : Py.Env → Py.M Py.D} {f : Py.Env → Py.D → Py.SM} (h : tS c (fun r => Py.bndE r (m r) (f r)) D σ H) :
    tE c k m σ H (fun v H1 => ∃ Z η Z1 η1 ω0 ω1 r d, c.Env σ r H Z η ω0 ∧ c.Env σ r H1 Z1 η1 ω1 ∧ c.Nx H Z η H1 Z1 η1 ω1 ∧ ResR c k r σ H H1 Z1 η1 v d ∧ postS c H1 Z1 η1 D (f r d ω1)) := by
  obtain ⟨Z, η, ω, r, e, h⟩ := h
  refine ⟨Z, η, ω, r, e, ?_⟩
  unfold Py.bndE at h
  cases hm : m r ω with
  | stuck => simp only [hm] at h; exact h
  | exc x ω' =>
    simp only [hm] at h
    exact fun H' Z' η' a n ha => h σ H' Z' η' a (e.step n.s n.w) (n.s.grow e.w) ha
  | ok d ω' =>
    simp only [hm] at h
    intro v H1 Z1 η1 n q
    exact ⟨Z, η, Z1, η1, ω, ω', r, d, e, e.step n.s n.w, n, q, h.grow (n.s.grow e.w)⟩
theorem tS.bndB {m : Py.Env → Py.M Bool} {f : Py.Env → Bool → Py.SM} (h : tS c (fun r => Py.bndE r (m r) (f r)) D σ H) : tT c m σ H (fun b H1 => tS c (fun r => f r b) D σ H1) := by
  obtain ⟨Z, η, ω, r, e, h⟩ := h
  refine ⟨Z, η, ω, r, e, ?_⟩
  unfold Py.bndE at h
  cases hm : m r ω with
  | stuck => simp only [hm] at h; exact h
  | exc x ω' =>
    simp only [hm] at h
    exact fun H' Z' η' a n ha => h σ H' Z' η' a (e.step n.s n.w) (n.s.grow e.w) ha
  | ok d ω' =>
    simp only [hm] at h
    exact fun H1 Z1 η1 n => ⟨Z1, η1, ω', r, e.step n.s n.w, h.grow (n.s.grow e.w)⟩
theorem postS.lif {α : Type} {o : Option α} {f : α → Py.SM} (h : postS c H Z η D (Py.bndE r (Py.lif o) f ω)) : ∃ a, o = some a ∧ postS c H Z η D (f a ω) := by
  cases o with
  | none => exact h.elim
  | some a => exact ⟨a, rfl, h⟩
/-! ### blocks, if -/
theorem jss_nil : JSs c [] (fun r => Py.nextS r) := PSs.imp pss_nil fun D σ H ⟨Z, η, ω, r, e, h⟩ => h σ H Z η e .refl
theorem tS.seq {m1 m2 : Py.Env → Py.SM} (h : tS c (fun r => Py.seqS (m1 r) m2) D σ H) : tS c m1 { D with nx := tS c m2 D } σ H := by
  obtain ⟨Z, η, ω, r, e, h⟩ := h
  refine ⟨Z, η, ω, r, e, ?_⟩
  unfold Py.seqS at h
  cases hm : m1 r ω with
  | stuck => simp only [hm] at h; exact h
  | rt d ω' => simp only [hm] at h; exact h
  | ex x r' ω' => simp only [hm] at h; exact h
  | nx r' ω' =>
    simp only [hm] at h
    exact fun σ' H' Z' η' e' g => ⟨Z', η', ω', r', e', h.grow g⟩
theorem jss_cons {st : Stmt} {sts : List Stmt} {m1 m2 : Py.Env → Py.SM} (h1 : JS c st m1) (h2 : JSs c sts m2) : JSs c (st :: sts) (fun r => Py.seqS (m1 r) m2) :=
  PSs.imp (pss_cons h1 h2) fun D σ H h => h.seq
theorem js_if {t : Expr} {a b : List Stmt} {pos : Pos} {mt : Py.Env → Py.M Py.D} {ma mb : Py.Env → Py.SM} (ht : JB c .val t mt) (ha : JSs c a ma) (hb : JSs c b mb) :
    JS c (.If t a b pos) (fun r => Py.bndE r (Py.bnd (mt r) fun x => Py.lif (Py.tru x)) fun k => if k = true then ma r else mb r) := by
  refine PS.imp (ps_if ht.jt ha hb) fun D σ H h => tT.mono h.bndB fun b H1 h => ?_
  cases b with
  | true => exact h
  | false => exact h
/-! ### the simple ones -/
theorem tE.then {m : Py.Env → Py.M Py.D} {Q Q' : VK} (h : tE c k m σ H Q) (i : ∀ v H', Q v H' → Q' v H') : tE c k m σ H Q' := tE.mono h i
theorem js_exp {e : Expr} {pos : Pos} {m : Py.Env → Py.M Py.D} (he : JE c .val e m) (hs : swapsWith e none pos.line c.X.env = pure false) : JS c (.Expr e pos) (fun r => Py.bndE r (m r) fun _ => Py.nextS r) :=
  PS.imp (ps_expr he hs) fun D σ H h => tE.mono h.bndE fun v H1 ⟨Z, η, Z1, η1, ω0, ω1, r, d, e0, e, n, q, h⟩ => h σ H1 Z1 η1 e .refl
theorem js_ret {e : Expr} {pos : Pos} {m : Py.Env → Py.M Py.D} (he : JE c .val e m) : JS c (.Return (some e) pos) (fun r => Py.bndE r (m r) Py.retS) :=
  PS.imp (ps_ret he) fun D σ H h => tE.mono h.bndE fun v H1 ⟨Z, η, Z1, η1, ω0, ω1, r, d, e0, e, n, q, h⟩ => h v H1 Z1 η1 e.s0 e.w q
theorem js_retN {pos : Pos} : JS c (.Return none pos) (fun _ => Py.retS .non) :=
  PS.imp ps_retN fun D σ H ⟨Z, η, ω, r, e, h⟩ => h .non H Z η e.s0 e.w .non
/-- an owned list is no more written: it becomes a value -/
theorem Ct.Env.freeze {i : Nat} {ds : List Py.D} {p : Addr} (e : c.Env σ r H Z η ω) (hi : r[i]? = some (.o ds)) (hp : σ[i]? = some (some (.ref p))) :
    ∃ Z', c.WI H Z' η ω ∧ Step c.H0 c.Z0 c.η0 H Z' η ∧ c.Rep H Z' η (.ref p) (.lst ds) ∧ Grow H Z η H Z' η ∧ c.Env σ (r.set i (.v (.lst ds))) H Z' η ω := by
  obtain ⟨p', h1, vs, h2, rl, nz, nη, h0⟩ := e.sl.own i ds hi
  rw [hp] at h1
  cases h1
  have up : ∀ {vs : List V} {ds : List Py.D}, c.RepL H Z η vs ds → c.RepL H (fun b => Z b ∨ b = p) η vs ds := fun r => r.mono (fun _ _ h _ => h) (fun _ h => .inl h) ⟨[], by simp⟩
  have up1 : ∀ {v : V} {d : Py.D}, c.Rep H Z η v d → c.Rep H (fun b => Z b ∨ b = p) η v d := fun r => r.mono (fun _ _ h _ => h) (fun _ h => .inl h) ⟨[], by simp⟩
  have w' : c.WI H (fun b => Z b ∨ b = p) η ω := by
    refine ⟨fun b h => ?_, fun b h => ?_, e.w.ηd, e.w.nd, e.w.len, fun n xs q => ?_⟩
    · rcases h with h | rfl
      · exact e.w.zη b h
      · exact nη
    · rcases h with h | rfl
      · exact e.w.zd b h
      · rw [h2]; simp
    · obtain ⟨a, us, k1, k2, k3⟩ := e.w.cell n xs q
      exact ⟨a, us, k1, k2, k3.map fun r => up r⟩
  have s' : Step c.H0 c.Z0 c.η0 H (fun b => Z b ∨ b = p) η := ⟨e.s0.keep, e.s0.tups, e.s0.there, fun b h => .inl (e.s0.zz b h), fun b h => by
    rcases h with h | rfl
    · exact e.s0.nz b h
    · exact .inr h0, e.s0.eta⟩
  have rp : c.Rep H (fun b => Z b ∨ b = p) η (.ref p) (.lst ds) := .lst (.inr rfl) h2 (up rl)
  refine ⟨fun b => Z b ∨ b = p, w', s', rp, ⟨fun b o h _ => h, fun b h => .inl h, [], by simp⟩, w', s', ⟨by simpa using e.sl.len, fun j d h => ?_, fun j es h => ?_, fun j l es fs q h1 h2 h3 h4 => ?_, fun j n h => by
    rcases get_set h with ⟨rfl, hl, e1⟩ | ⟨hn, h⟩
    · cases e1
    · exact e.sl.xs j n h⟩⟩
  · rcases get_set h with ⟨rfl, hl, e1⟩ | ⟨hn, h⟩
    · cases e1
      exact ⟨_, hp, rp⟩
    · obtain ⟨v, k1, k2⟩ := e.sl.val j d h
      exact ⟨v, k1, up1 k2⟩
  · rcases get_set h with ⟨rfl, hl, e1⟩ | ⟨hn, h⟩
    · cases e1
    · obtain ⟨q, k1, us, k2, k3, k4, k5, k6⟩ := e.sl.own j es h
      refine ⟨q, k1, us, k2, up k3, fun z => ?_, k5, k6⟩
      rcases z with z | rfl
      · exact k4 z
      · exact hn (e.sl.apart j i es ds q h hi k1 hp)
  · rcases get_set h1 with ⟨e0, hl, e1⟩ | ⟨hn, k1⟩
    · cases e1
    · rcases get_set h2 with ⟨e0, hl, e1⟩ | ⟨hn2, k2⟩
      · cases e1
      · exact e.sl.apart j l es fs q k1 k2 h3 h4
theorem js_retO {i : Nat} {x : Str} {p pos : Pos} (hN : c.X.N[i]? = some x) (hv : Vis c.X.env.scope x) (hd : (x == ("__debug__" : Str)) = false) (hcd : (x == ("__classdict__" : Str)) = false) :
    JS c (.Return (some (.Name x p)) pos) (fun r => Py.bndE r (Py.lif (r.get i).own) fun xs => Py.retS (.lst xs)) := by
  refine PS.imp (ps_ret (pe_var hN hv hd hcd)) fun D σ H ⟨Z, η, ω, r, e, h⟩ => ?_
  obtain ⟨ds, h1, h⟩ := h.lif
  obtain ⟨q, h2, _⟩ := e.sl.own i ds (get_o h1)
  obtain ⟨Z', w', s', rp, _⟩ := Ct.Env.freeze e (get_o h1) h2
  exact ⟨.ref q, h2, h _ H Z' η s' w' rp⟩
/-- a ghost: from here on the list is a value -/
theorem jss_frz {i : Nat} {sts : List Stmt} {m2 : Py.Env → Py.SM} (h2 : JSs c sts m2) : JSs c sts (fun r => Py.seqS (Py.bndE r (Py.lif ((r.get i).own.map fun xs => r.set i (.v (.lst xs)))) Py.nextS) m2) := by
  refine PSs.imp h2 fun D σ H ⟨Z, η, ω, r, e, h⟩ => ?_
  replace h : postS c H Z η D (Py.seqS (Py.bndE r (Py.lif ((r.get i).own.map fun xs => r.set i (.v (.lst xs)))) Py.nextS) m2 ω) := h
  cases ho : (Py.Env.get r i).own with
  | none => rw [ho] at h; exact h.elim
  | some ds =>
    rw [ho] at h
    obtain ⟨q, h2, _⟩ := e.sl.own i ds (get_o ho)
    obtain ⟨Z', w', s', rp, g, e'⟩ := Ct.Env.freeze e (get_o ho) h2
    exact ⟨Z', η, ω, _, e', postS.grow (show postS c H Z η D (m2 _ ω) from h) g⟩
/-! ### stores -/
theorem js_asg {i : Nat} {x : Str} {e : Expr} {pos pos' : Pos} {m : Py.Env → Py.M Py.D} (hN : c.X.N.Nodup) (hi : c.X.N[i]? = some x) (hx : Loc c.X.env.scope x) (he : JE c .val e m) (hs : swapsWith e (some (.Name x pos')) pos.line c.X.env = pure false) (hf : c.X.fn x = true ∨ c.X.env.scope.names.lookup x = some .local) :
    JS c (.Assign [.Name x pos'] e pos) (fun r => Py.bndE r (m r) fun d => Py.nextS (r.set i (.v d))) :=
  PS.imp (ps_set hN hi hx he hs hf) fun D σ H h => tE.mono h.bndE fun v H1 ⟨Z, η, Z1, η1, ω0, ω1, r, d, e0, e, n, q, h⟩ => h _ H1 Z1 η1 (Ct.Env.setV e q) .refl
/-- a new list becomes slot i's own -/
theorem own_end {i : Nat} {Q : L2.St → Hp → Prop} {s : Py.Slot} {ω0 : Py.Store} (e0 : c.Env σ r H Z η ω0) (e : c.Env σ r H1 Z1 η1 ω1) (q : ResR c .frs r σ H H1 Z1 η1 v d) (hs : Py.slotOf true d = some s)
    (h : ∀ σ' H' Z' η', c.Env σ' (r.set i s) H' Z' η' ω1 → Grow H1 Z1 η1 H' Z' η' → Q σ' H') : Q (σ.set i (some v)) H1 := by
  rcases q with ⟨p, vs, ds, rfl, rfl, h0, h1, rl, nz, nη⟩ | ⟨_, hn⟩
  · cases hs
    have h0D : c.H0 p = none := by
      cases q : c.H0 p with
      | none => rfl
      | some u => exact absurd h0 (e0.s0.there p (by rw [q]; simp))
    exact h _ H1 Z1 η1 (Ct.Env.setO e ⟨vs, h1, rl, nz, nη, h0D⟩ fun j es _ hj => Ct.Env.ownNe e0 h0 j es hj) .refl
  · cases d <;> (try (cases hs; done))
    exact absurd rfl (hn _)
theorem js_own {i : Nat} {x : Str} {e : Expr} {pos pos' : Pos} {m : Py.Env → Py.M Py.D} (hN : c.X.N.Nodup) (hi : c.X.N[i]? = some x) (hx : Loc c.X.env.scope x) (he : JE c .frs e m) (hs : swapsWith e (some (.Name x pos')) pos.line c.X.env = pure false) (hf : c.X.fn x = true ∨ c.X.env.scope.names.lookup x = some .local) :
    JS c (.Assign [.Name x pos'] e pos) (fun r => Py.bndE r (Py.bnd (m r) fun d => Py.lif (Py.slotOf true d)) fun s => Py.nextS (r.set i s)) :=
  PS.imp (ps_set hN hi hx he hs hf) fun D σ H h => by
    have h : tS c (fun r => Py.bndE r (m r) fun d => Py.bndE r (Py.lif (Py.slotOf true d)) fun s => Py.nextS (r.set i s)) D σ H := by
      simpa only [Py.bndE_bnd] using h
    refine tE.mono h.bndE fun v H1 ⟨Z, η, Z1, η1, ω0, ω1, r, d, e0, e, n, q, h⟩ => ?_
    obtain ⟨s, h1, h⟩ := h.lif
    exact own_end e0 e q h1 h
/-! ### x = [.. for ..] on one line: the same, by another rule -/
theorem js_asgLc {i : Nat} {y : Str} {py : Pos} {elt tg iter : Expr} {ifs : List Expr} {scope : Scope} {own : List (Str × Nat)} {pos spos : Pos} {t : Py.Tgt} {mi : Py.Env → Py.M (List Py.D)} {mt : Py.Env → Py.M Bool} {me : Py.Env → Py.M Py.D} {m : Py.Env → Py.M Py.D}
    (hc : c.X.calm = true) (hN : c.X.N.Nodup) (hy : c.X.N[i]? = some y) (hyl : c.X.env.scope.names.lookup y = some .local)
    (hsw : swapsWith (.ListComp elt [⟨tg, iter, ifs, 0⟩] scope pos) (some (.Name y py)) spos.line c.X.env = pure true) (hi : JI c false tg iter mi) (ok : BlkOk c.X.N c.X.env.scope scope own) (hown : own.map (·.2) = tgtIs t)
    (hg : ∀ (s : Shared) (H : Hp) (C : Addr) (cl : List (Str × Addr)) (fp : List Addr), PG (c.X.blk s H scope (compEnvC scope cl C c.X.env) fp) tg (gOf c.X.K t))
    (ht : ∀ (s : Shared) (H : Hp) (C : Addr) (cl : List (Str × Addr)) (fp : List Addr), PTs (c.X.blk s H scope (compEnvC scope cl C c.X.env) fp) ifs (tT c.still mt))
    (he : ∀ (s : Shared) (H : Hp) (C : Addr) (cl : List (Str × Addr)) (fp : List Addr), PE (c.X.blk s H scope (compEnvC scope cl C c.X.env) fp) elt (tE c.still .val me)) (hs : ∀ x, foldedSetIterable iter c.X.env x = pure x)
    (hm : m = fun r => Py.bnd (mi r) fun xs => Py.bnd (Py.compM xs (cStep t mt me r)) fun ys => Py.ret (.lst ys)) :
    JS c (.Assign [.Name y py] (.ListComp elt [⟨tg, iter, ifs, 0⟩] scope pos) spos) (fun r => Py.bndE r (m r) fun d => Py.nextS (r.set i (.v d))) ∧
    JS c (.Assign [.Name y py] (.ListComp elt [⟨tg, iter, ifs, 0⟩] scope pos) spos) (fun r => Py.bndE r (Py.bnd (m r) fun d => Py.lif (Py.slotOf true d)) fun s => Py.nextS (r.set i s)) := by
  subst hm
  refine ⟨PS.imp (ps_setLc hc hN hy hyl hsw hi ok hg ht he hs) fun D σ H h => ?_, PS.imp (ps_setLc hc hN hy hyl hsw hi ok hg ht he hs) fun D σ H h => ?_⟩
  · rw [hown]
    exact comp_t (tE.weaken (tE.mono h.bndE fun v H1 ⟨Z, η, Z1, η1, ω0, ω1, r, d, e0, e, n, q, h⟩ => h _ H1 Z1 η1 (Ct.Env.setV e q) .refl))
  · have h : tS c (fun r => Py.bndE r (Py.bnd (mi r) fun xs => Py.bnd (Py.compM xs (cStep t mt me r)) fun ys => Py.ret (Py.D.lst ys)) fun d => Py.bndE r (Py.lif (Py.slotOf true d)) fun s => Py.nextS (r.set i s)) D σ H := by
      simpa only [Py.bndE_bnd] using h
    rw [hown]
    refine comp_t (tE.mono h.bndE fun v H1 ⟨Z, η, Z1, η1, ω0, ω1, r, d, e0, e, n, q, h⟩ => ?_)
    obtain ⟨s, h1, h⟩ := h.lif
    exact own_end e0 e q h1 h
end
end PyS
end
section
namespace PyS
open PySem PySem.Spec PyProof.Rows L2
section
variable {c : Ct} {k ka kb : Kd} {σ : L2.St} {r : Py.Env} {H H1 H2 : Hp} {Z Z1 : Addr → Prop} {η η1 : List Addr} {ω ω1 : Py.Store} {D : Ends} {v : V} {d : Py.D}
/-! ### for -/
theorem js_for {t : Py.Tgt} {tg iter : Expr} {body : List Stmt} {pos : Pos} {mi : Py.Env → Py.M (List Py.D)} {mb : Py.Env → Py.SM} (hp : PassesOwn (model c.X.prog c.X.w) c.X.A c.X.env c.X.xe) (hc : c.X.calm = true)
    (hi : JI c true tg iter mi) (hg : PG c.X tg (gOf c.X.K t)) (hb : JSs c body mb) (hs : ∀ x, foldedSetIterable iter c.X.env x = pure x) :
    JS c (.For tg iter body [] pos) (fun r => Py.bndE r (mi r) fun xs => Py.forS xs (fun r x => Py.bndE r (Py.lif (Py.bindT r t x)) fun r => mb r) r) := by
  refine PS.imp (ps_for hp hc hi hg hb hs) fun D σ H ⟨Z, η, ω, r, e, h⟩ => ?_
  refine ⟨Z, η, ω, r, e, ?_⟩
  unfold Py.bndE at h
  cases hm : mi r ω with
  | stuck => simp only [hm] at h; exact h
  | exc x ω' =>
    simp only [hm] at h
    exact fun H' Z' η' a n ha => h σ H' Z' η' a (e.step n.s n.w) (n.s.grow e.w) ha
  | ok ds ω1 =>
    simp only [hm] at h
    intro J H1 Z1 η1 n1 hit
    obtain ⟨P, S, ok, hP⟩ := hit
    have h := h.grow (n1.s.grow e.w)
    refine ⟨fun i m σ Hh => m = ds.length - i ∧ i ≤ ds.length ∧ ∃ Z2 η2 ω2 r2, c.Env σ r2 Hh Z2 η2 ω2 ∧ P Hh Z2 η2 ∧ postS c Hh Z2 η2 D (Py.forS (ds.drop i) (fun r x => Py.bndE r (Py.lif (Py.bindT r t x)) fun r => mb r) r2 ω2),
      ⟨ds.length, by simp, Nat.zero_le _, Z1, η1, ω1, r, e.step n1.s n1.w, hP, h⟩, ?_⟩
    rintro i m σ Hh ⟨rfl, hi, Z2, η2, ω2, r2, e2, p2, h2⟩
    by_cases hlt : i < ds.length
    · have hd : ds[i]? = some ds[i] := List.getElem?_eq_getElem hlt
      obtain ⟨hgo, hy⟩ := ok.go p2 e2.w hd
      rw [List.drop_eq_getElem_cons hlt] at h2
      simp only [Py.forS] at h2
      refine .inr ⟨hgo, fun σ' H' => ∃ Z3 η3 ω3 r3, c.Env σ' r3 H' Z3 η3 ω3 ∧ P H' Z3 η3 ∧ postS c H' Z3 η3 D (Py.forS (ds.drop (i + 1)) (fun r x => Py.bndE r (Py.lif (Py.bindT r t x)) fun r => mb r) r3 ω3),
        fun σ' H' hN => ⟨ds.length - (i + 1), by omega, rfl, hlt, hN⟩, fun x H' hyld => ?_⟩
      obtain ⟨s3, w3, rx⟩ := hy x H' hyld
      cases hbt : Py.bindT r2 t ds[i] with
      | none => rw [hbt] at h2; exact h2.elim
      | some r3 =>
        rw [hbt] at h2
        simp only [Py.lif_some, Py.bndE_ret] at h2
        have g3 := s3.grow e2.w
        have p3 := ok.grow rfl p2 g3
        refine tu (e2.step s3 w3) rx hbt fun σ' e4 _ _ => ?_
        refine ⟨Z2, η2, ω2, r3, e4, ?_⟩
        replace h2 := h2.grow g3
        unfold Py.seqS at h2
        cases hb : mb r3 ω2 with
        | stuck => rw [hb] at h2; exact h2
        | rt d ω' => rw [hb] at h2; exact h2
        | ex x r' ω' => rw [hb] at h2; exact h2
        | nx r' ω' =>
          rw [hb] at h2
          intro σ5 H5 Z5 η5 e5 g5
          exact ⟨Z5, η5, ω', r', e5, ok.grow rfl p3 g5, h2.grow g5⟩
    · have hie : i = ds.length := by omega
      rw [hie, List.drop_length] at h2
      exact .inl ⟨ok.stop p2 (by omega), h2 σ Hh Z2 η2 e2 .refl⟩
/-! ### while -/
theorem js_while {t : Expr} {body : List Stmt} {pos : Pos} {n : Nat} {mt : Py.Env → Py.M Py.D} {mb : Py.Env → Py.SM} (hp : PassesOwn (model c.X.prog c.X.w) c.X.A c.X.env c.X.xe) (ht : JB c .val t mt) (hb : JSs c body mb) :
    JS c (.While t body [] pos) (fun r => Py.whileS n mt mb r) := by
  refine PS.imp (ps_while hp ht.jt hb) fun D σ H ⟨Z, η, ω, r, e, h⟩ => ?_
  refine ⟨fun m σ Hh => ∃ Z2 η2 ω2 r2, c.Env σ r2 Hh Z2 η2 ω2 ∧ postS c Hh Z2 η2 D (Py.whileS m mt mb r2 ω2), ⟨n, Z, η, ω, r, e, h⟩, ?_⟩
  rintro m σ Hh ⟨Z2, η2, ω2, r2, e2, h2⟩
  cases m with
  | zero => exact h2.elim
  | succ m =>
    simp only [Py.whileS] at h2
    have h3 : tS c (fun r => Py.bndE r (asT mt r) fun k => if k = true then Py.seqS (mb r) (Py.whileS m mt mb) else Py.nextS r) D σ Hh := ⟨Z2, η2, ω2, r2, e2, h2⟩
    refine tT.mono h3.bndB fun b H1 h => ?_
    cases b with
    | false =>
      obtain ⟨Z3, η3, ω3, r3, e3, h⟩ := h
      exact h σ H1 Z3 η3 e3 .refl
    | true =>
      rw [if_pos rfl]
      refine ⟨fun σ' H' => ∃ Z2 η2 ω2 r2, c.Env σ' r2 H' Z2 η2 ω2 ∧ postS c H' Z2 η2 D (Py.whileS m mt mb r2 ω2), fun σ' H' hN => ⟨m, by omega, hN⟩, ?_⟩
      have h : tS c (fun r => Py.seqS (mb r) (Py.whileS m mt mb)) D σ H1 := h
      obtain ⟨Z3, η3, ω3, r3, e3, h⟩ := h
      refine ⟨Z3, η3, ω3, r3, e3, ?_⟩
      replace h : postS c H1 Z3 η3 D (Py.seqS (mb r3) (Py.whileS m mt mb) ω3) := h
      unfold Py.seqS at h
      cases hb : mb r3 ω3 with
      | stuck => rw [hb] at h; exact h
      | rt d ω' => rw [hb] at h; exact h
      | ex x r' ω' => rw [hb] at h; exact h
      | nx r' ω' =>
        rw [hb] at h
        intro σ5 H5 Z5 η5 e5 g5
        exact ⟨Z5, η5, ω', r', e5, h.grow g5⟩
/-! ### a list of one's own is written -/
theorem own_write {i : Nat} {ds ds' : List Py.D} {p : Addr} {us vs' : List V} (e : c.Env σ r H Z η ω) (hi : r[i]? = some (.o ds)) (hp : σ[i]? = some (some (.ref p))) (hH : H p = some (.lst us)) (rl : c.RepL H Z η vs' ds') :
    c.Env σ (r.set i (.o ds')) (upd H p (.lst vs')) Z η ω ∧ Grow H Z η (upd H p (.lst vs')) Z η := by
  obtain ⟨p', h1, vs, h2, rl0, nz, nη, h0⟩ := e.sl.own i ds hi
  rw [hp] at h1
  cases h1
  have hi' : i < r.length := (List.getElem?_eq_some_iff.mp hi).1
  refine ⟨⟨Ct.WI.write e.w hH nz nη, Step.write e.s0 hH h0, ⟨by simpa using e.sl.len, fun j d h => ?_, fun j es h => ?_, fun j l es fs q h1 h2 h3 h4 => ?_, fun j n h => by
    rcases get_set h with ⟨rfl, hl, e1⟩ | ⟨hn, h⟩
    · cases e1
    · exact e.sl.xs j n h⟩⟩, ⟨fun b o h z => ?_, fun _ h => h, [], by simp⟩⟩
  · rcases get_set h with ⟨rfl, hl, e1⟩ | ⟨hn, h⟩
    · cases e1
    · obtain ⟨v, k1, k2⟩ := e.sl.val j d h
      exact ⟨v, k1, k2.write hH nz⟩
  · rcases get_set h with ⟨rfl, hl, e1⟩ | ⟨hn, h⟩
    · cases e1
      exact ⟨p, hp, _, upd_same, rl.write hH nz, nz, nη, h0⟩
    · obtain ⟨q, k1, us', k2, k3, k4, k5, k6⟩ := e.sl.own j es h
      have ne : q ≠ p := by rintro rfl; exact hn (e.sl.apart j i es ds q h hi k1 hp)
      exact ⟨q, k1, us', by rw [upd_ne ne]; exact k2, k3.write hH nz, k4, k5, k6⟩
  · rcases get_set h1 with ⟨e0, hl, e1⟩ | ⟨hn, k1⟩
    · rcases get_set h2 with ⟨e3, hl2, e2⟩ | ⟨hn2, k2⟩
      · rw [e0, e3]
      · rw [e0] at h3 ⊢
        exact e.sl.apart i l ds fs q hi k2 h3 h4
    · rcases get_set h2 with ⟨e3, hl2, e2⟩ | ⟨hn2, k2⟩
      · rw [e3] at h4 ⊢
        exact e.sl.apart j i es ds q k1 hi h3 h4
      · exact e.sl.apart j l es fs q k1 k2 h3 h4
  · rw [upd_ne]
    · exact h
    · rintro rfl
      rcases z with z | ⟨xs, rfl⟩
      · exact nz z
      · rw [hH] at h; cases h
theorem swaps_call {f : Expr} {es : List Expr} {ks : List Keyword} {p : Pos} {t : Option Expr} {l : Nat} {env : PySem.Env} : swapsWith (.Call f es ks p) t l env = pure false := rfl
theorem js_app {i : Nat} {x : Str} {e : Expr} {p1 apos cpos pos : Pos} {m : Py.Env → Py.M Py.D} (hN : c.X.N[i]? = some x) (hv : Vis c.X.env.scope x) (hd : (x == ("__debug__" : Str)) = false) (hcd : (x == ("__classdict__" : Str)) = false)
    (he : JE c .val e m) (hs : starEach [e] c.X.env = [(false, eval e c.X.env)]) (hline : (apos.endLine == cpos.line) = true) :
    JS c (.Expr (.Call (.Attribute (.Name x p1) "append" apos) [e] [] cpos) pos) (fun r => Py.bndE r (Py.bnd (Py.lif (r.get i).own) fun xs => Py.bnd (m r) fun d => Py.lif (if xs.length < Py.LIM then some (r.set i (.o (xs ++ [d]))) else none)) Py.nextS) := by
  have hfew : ((backTo cpos (starEach [e] c.X.env)).all (fun x => !x.1) && (backToKw cpos (keywordEach [] c.X.env)).all (fun x => x.1.isSome) && decide (([e] : List Expr).length + ([] : List Keyword).length + (if ([] : List Keyword).isEmpty then 0 else 1) < 30)) = true := by
    rw [hs]; rfl
  refine PS.imp (ps_expr (pe_bm PySem.F.plainAttrs_list PySem.F.slot_list_append PySem.F.type_list_append mt_append (pe_var hN hv hd hcd) (pa_cons he pa_nil hs) (by rfl) hfew hline hs (by rfl)) swaps_call) fun D σ H ⟨Z, η, ω, r, en, h⟩ => ?_
  try dsimp only at h
  rw [Py.bndE_bnd] at h
  obtain ⟨ds, h1, h⟩ := h.lif
  obtain ⟨p, h2, vs, h3, rl, nz, nη, h0⟩ := en.sl.own i ds (get_o h1)
  refine ⟨.ref p, h2, .inl ⟨rfl, vs, .of h3⟩, Z, η, ω, r, en, ?_⟩
  try dsimp only at h
  rw [Py.bndE_bnd] at h
  unfold Py.bndE at h
  cases hm : m r ω with
  | stuck => simp only [hm] at h; exact h
  | exc x ω' =>
    simp only [hm] at h
    exact fun H' Z' η' a n ha => h σ H' Z' η' a (en.step n.s n.w) (n.s.grow en.w) ha
  | ok d ω' =>
    simp only [hm] at h
    intro v H1 Z1 η1 n q
    have e1 := en.step n.s n.w
    obtain ⟨p', h2', vs', h3', rl', nz', nη', h0'⟩ := e1.sl.own i ds (get_o h1)
    rw [h2] at h2'
    cases h2'
    by_cases hl : ds.length < Py.LIM
    · rw [if_pos hl] at h
      replace h : postS c H Z η D (.nx (r.set i (.o (ds ++ [d]))) ω') := h
      have rl2 := rl'.append (.one (show c.Rep H1 Z1 η1 v d from q))
      obtain ⟨e2, g2⟩ := own_write e1 (get_o h1) h2 h3' rl2
      exact ⟨p, vs', v, rfl, rfl, h3', by rw [rl'.length, ← lim_eq]; exact hl, h σ _ Z1 η1 e2 ((n.s.grow en.w).trans g2)⟩
    · rw [if_neg hl] at h
      exact h.elim
theorem ext_tup (l : Addr) (items : Array Value) (n : Nat) (b : Addr) (items2 : Array Value) (n2 : Nat) (di : Option Addr) (sl : Array (Option Value)) (hs0 : ¬(!items.isEmpty && Builtin.List.listTooLong (items.size + items2.size)) = true) (hs1 : items.size ≤ sizeLine) (hs2 : items.size + items2.size ≤ sizeLine + 1) :
    Meets (Builtin.«list.extend» ⟨[.ref l, .ref b], []⟩) (fun _ R s => s.heap.get? l = some { cls := .type "list", dict := none, data := .seq items n, slots := #[] } ∧ s.heap.get? b = some { cls := .type "tuple", dict := di, data := .seq items2 n2, slots := sl } ∧ R (.ok (.ret Value.none)) { s with heap := s.heap.update l (Obj.mapSeq fun x => x ++ items2), toks := s.toks }) :=
  .of_wp fun prog w A R s h => by
    obtain ⟨hp, g, d, tk, os⟩ := s; obtain ⟨hl, hb, h⟩ := h; have f1 := AutoSeq1.idx_int; have f2 := AutoSeq1.sub_tuple_tuple; have f3 := AutoSeq1.sub_list_list; have f4 := AutoSeq1.sub_tuple_list; have f5 := AutoSeq1.sub_list_tuple;
    have hz' : (items ++ items2).size ≤ sizeLine + 1 := by rw [Array.size_append]; exact hs2
    wp_walk using (wpAny_updateSeq hl rfl (hz := hs1) (_hz' := hz')), AutoSeq1.wpAny_loadPart' hl, AutoSeq1.wpAny_loadPart' hb; exact ⟨_, rfl, h⟩
theorem mt_extend2 {X : Cx} : MtM X "list.extend" (fun x vs H Q => ∃ l b xs zs, x = .ref l ∧ vs = [.ref b] ∧ H l = some (.lst xs) ∧ (H b = some (.lst zs) ∨ H b = some (.tup zs)) ∧ xs.length + zs.length ≤ sizeLine ∧ Q .non (upd H l (.lst (xs ++ zs)))) := by
  intro pins s σ H x vs v us Q I rx rv h
  obtain ⟨l, b, xs, zs, rfl, rfl, hH, hB, hz, q⟩ := h
  rcases hB with hB | hB
  · exact mt_extend pins s σ H _ _ v us Q I rx rv ⟨l, b, xs, zs, rfl, rfl, hH, hB, hz, q⟩
  · cases rx
    obtain ⟨u, rfl, ru⟩ := rv.one
    cases ru
    obtain ⟨z, its, n, r, hl, e⟩ := I.lstM hH
    obtain ⟨its2, r2, e2, _⟩ := I.tuple (L2.SqT.of hB)
    have hl2 : its2.length = zs.length := r2.length.symm
    have hsz : its.toArray.size + its2.toArray.size ≤ sizeLine := by rw [List.size_toArray, List.size_toArray]; omega
    have hlong : ¬ (!its.toArray.isEmpty && Builtin.List.listTooLong (its.toArray.size + its2.toArray.size)) = true := by
      rw [notLongL hsz, Bool.and_false]
      exact Bool.false_ne_true
    obtain ⟨⟨oc, od, oda, os⟩, e2, e3, n2, e4⟩ := e2
    simp only at e3 e4
    subst e3 e4
    refine call_meets PySem.F.slot_list_extend ⟨_, e, rfl⟩ PySem.F.entry_list_extend (PySem.F.args_list_extend_2 _ _)
      (ext_tup l its.toArray n b its2.toArray n2 od os hlong (by rw [List.size_toArray]; omega) (by omega)) ⟨e, e2, ?_⟩
    refine ⟨.non, _, I.lset (its' := its ++ its2) hH e (by simp) (r.append r2) ?_, rfl, q⟩
    rw [List.length_append]
    omega
theorem js_ext {i : Nat} {x : Str} {e : Expr} {p1 apos cpos pos : Pos} {m : Py.Env → Py.M Py.D} (hN : c.X.N[i]? = some x) (hv : Vis c.X.env.scope x) (hd : (x == ("__debug__" : Str)) = false) (hcd : (x == ("__classdict__" : Str)) = false)
    (he : JE c k e m) (hs : starEach [e] c.X.env = [(false, eval e c.X.env)]) (hline : (apos.endLine == cpos.line) = true) :
    JS c (.Expr (.Call (.Attribute (.Name x p1) "extend" apos) [e] [] cpos) pos) (fun r => Py.bndE r (Py.bnd (Py.lif (r.get i).own) fun xs => Py.bnd (m r) fun d => Py.lif ((Py.extD d).bind fun ys => if xs.length + ys.length ≤ Py.LIM then some (r.set i (.o (xs ++ ys))) else none)) Py.nextS) := by
  have hfew : ((backTo cpos (starEach [e] c.X.env)).all (fun x => !x.1) && (backToKw cpos (keywordEach [] c.X.env)).all (fun x => x.1.isSome) && decide (([e] : List Expr).length + ([] : List Keyword).length + (if ([] : List Keyword).isEmpty then 0 else 1) < 30)) = true := by
    rw [hs]; rfl
  refine PS.imp (ps_expr (pe_bm PySem.F.plainAttrs_list PySem.F.slot_list_extend PySem.F.type_list_extend mt_extend2 (pe_var hN hv hd hcd) (pa_cons he pa_nil hs) (by rfl) hfew hline hs (by rfl)) swaps_call) fun D σ H ⟨Z, η, ω, r, en, h⟩ => ?_
  try dsimp only at h
  rw [Py.bndE_bnd] at h
  obtain ⟨ds, h1, h⟩ := h.lif
  obtain ⟨p, h2, vs, h3, rl, nz, nη, h0⟩ := en.sl.own i ds (get_o h1)
  refine ⟨.ref p, h2, .inl ⟨rfl, vs, .of h3⟩, Z, η, ω, r, en, ?_⟩
  try dsimp only at h
  rw [Py.bndE_bnd] at h
  unfold Py.bndE at h
  cases hm : m r ω with
  | stuck => simp only [hm] at h; exact h
  | exc x ω' =>
    simp only [hm] at h
    exact fun H' Z' η' a n ha => h σ H' Z' η' a (en.step n.s n.w) (n.s.grow en.w) ha
  | ok d ω' =>
    simp only [hm] at h
    intro v H1 Z1 η1 n q
    have e1 := en.step n.s n.w
    obtain ⟨p', h2', vs', h3', rl', nz', nη', h0'⟩ := e1.sl.own i ds (get_o h1)
    rw [h2] at h2'
    cases h2'
    obtain ⟨ys, hy⟩ : ∃ ys, Py.extD d = some ys := by
      cases hq : Py.extD d with
      | none =>
        rw [hq] at h
        exact h.elim
      | some ys => exact ⟨ys, rfl⟩
    rw [hy] at h
    obtain ⟨b, us, rfl, g1, rl3⟩ : ∃ b us, v = .ref b ∧ (H1 b = some (.lst us) ∨ H1 b = some (.tup us)) ∧ c.RepL H1 Z1 η1 us ys := by
      cases d <;> (try (cases hy; done))
      · cases hy
        obtain ⟨b, us, rfl, g1, rl3⟩ := (q.view e1).tup
        exact ⟨b, us, rfl, .inr g1, rl3⟩
      · cases hy
        obtain ⟨b, us, rfl, g1, rl3⟩ := (q.view e1).lst
        exact ⟨b, us, rfl, .inl g1, rl3⟩
    by_cases hl : ds.length + ys.length ≤ Py.LIM
    · simp only [Option.bind_some] at h
      rw [if_pos hl] at h
      replace h : postS c H Z η D (.nx (r.set i (.o (ds ++ ys))) ω') := h
      have rl2 := rl'.append rl3
      obtain ⟨e2, g2⟩ := own_write e1 (get_o h1) h2 h3' rl2
      exact ⟨p, b, vs', us, rfl, rfl, h3', g1, by rw [rl'.length, rl3.length, ← lim_eq]; exact hl, h σ _ Z1 η1 e2 ((n.s.grow en.w).trans g2)⟩
    · exfalso
      simp only [Option.bind_some] at h
      rw [if_neg hl] at h
      exact h
theorem RepL.dropLast {K : PySem.W.Frag} {fA : Ad} {H : Hp} {Z : Addr → Prop} {η : List Addr} {vs : List V} {ds : List Py.D} (h : RepL K fA H Z η vs ds) : RepL K fA H Z η vs.dropLast ds.dropLast := by
  rw [List.dropLast_eq_take, List.dropLast_eq_take, h.length]
  exact h.take _
theorem RepL.last {K : PySem.W.Frag} {fA : Ad} {H : Hp} {Z : Addr → Prop} {η : List Addr} {vs : List V} {ds : List Py.D} {d : Py.D} (h : RepL K fA H Z η vs ds) (hd : ds.getLast? = some d) : ∃ v, vs[vs.length - 1]? = some v ∧ Rep K fA H Z η v d := by
  rw [List.getLast?_eq_getElem?] at hd
  obtain ⟨v, h1, h2⟩ := h.get hd
  exact ⟨v, by rw [h.length]; exact h1, h2⟩
theorem js_popA {i j : Nat} {x y : Str} {p1 py apos cpos pos : Pos} (hNd : c.X.N.Nodup) (hN : c.X.N[i]? = some x) (hv : Vis c.X.env.scope x) (hd : (x == ("__debug__" : Str)) = false) (hcd : (x == ("__classdict__" : Str)) = false)
    (hj : c.X.N[j]? = some y) (hy : Loc c.X.env.scope y) (hf : c.X.fn y = true ∨ c.X.env.scope.names.lookup y = some .local) (hline : (apos.endLine == cpos.line) = true) :
    JS c (.Assign [.Name y py] (.Call (.Attribute (.Name x p1) "pop" apos) [] [] cpos) pos) (fun r => Py.bndE r (Py.lif ((r.get i).own.bind fun xs => xs.getLast?.map fun d => (r.set i (.o xs.dropLast)).set j (.v d))) Py.nextS) := by
  refine PS.imp (ps_set hNd hj hy (pe_bm0 PySem.F.plainAttrs_list PySem.F.slot_list_pop PySem.F.type_list_pop mt_pop (pe_var hN hv hd hcd) (by rfl) hline) swaps_call hf) fun D σ H ⟨Z, η, ω, r, en, h⟩ => ?_
  obtain ⟨r', h1, h⟩ := h.lif
  obtain ⟨ds, h2, h3⟩ := Option.bind_eq_some_iff.mp h1
  obtain ⟨d, h4, rfl⟩ := Option.map_eq_some_iff.mp h3
  obtain ⟨p, k2, vs, k3, rl, nz, nη, h0⟩ := en.sl.own i ds (get_o h2)
  obtain ⟨v, k4, k5⟩ := rl.last h4
  obtain ⟨e2, g2⟩ := own_write en (get_o h2) k2 k3 rl.dropLast
  exact ⟨.ref p, k2, .inl ⟨rfl, vs, .of k3⟩, p, vs, v, rfl, rfl, k3, k4, h _ _ Z η (Ct.Env.setV e2 (k5.write k3 nz)) g2⟩
/-! ### several targets -/
theorem pg_any {X : Cx} {es : List Expr} {k n : Nat} {pos : Pos} {t : TGs} (hc : X.calm = true) (h : PGs X es t) (hn : (assignEach es X.env).length = n) (hst : (assignEach es X.env).findIdx? (·.1) = none) :
    PG X (.Tuple es k pos) (fun v σ H Q => gTup X.K n t v σ H Q ∨ gLst X.K n t v σ H Q) := by
  refine ⟨fun pins s σ H v u Q I r hw => ?_⟩
  rcases hw with hw | hw
  · exact (pg_tup hc h hn hst).run pins s σ H v u Q I r hw
  · exact (pg_lst hc h hn hst).run pins s σ H v u Q I r hw
theorem js_unp {is : List Nat} {es : List Expr} {e : Expr} {kk : Nat} {tpos pos : Pos} {m : Py.Env → Py.M Py.D} (hc : c.X.calm = true) (he : JE c .val e m) (hg : PGs c.X es (gNs is)) (hn : (assignEach es c.X.env).length = is.length) (hst : (assignEach es c.X.env).findIdx? (·.1) = none)
    (hs : swapsWithSole [.Tuple es kk tpos] e pos.line c.X.env = pure false) (hw : swappedStores [.Tuple es kk tpos] e c.X.env = pure none) :
    JS c (.Assign [.Tuple es kk tpos] e pos) (fun r => Py.bndE r (Py.bnd (m r) fun d => Py.lif ((Py.unpD d).bind fun ds => Py.setAll r is ds)) Py.nextS) := by
  refine PS.imp (ps_asg he (pg_any hc hg hn hst) hs hw (by rfl)) fun D σ H h => ?_
  have h : tS c (fun r => Py.bndE r (m r) fun d => Py.bndE r (Py.lif ((Py.unpD d).bind fun ds => Py.setAll r is ds)) Py.nextS) D σ H := by
    simpa only [Py.bndE_bnd] using h
  refine tE.mono h.bndE fun v H1 ⟨Z, η, Z1, η1, ω0, ω1, r, d, e0, e, n, q, h⟩ => ?_
  obtain ⟨r', h1, h5⟩ := h.lif
  obtain ⟨ds, h2, h3⟩ := Option.bind_eq_some_iff.mp h1
  cases d <;> (try (cases h2; done))
  · cases h2
    cases (show PyS.Rep c.X.K c.fA H1 Z1 η1 v (.tup ds) from q) with
    | tup g1 rl => exact .inl ⟨_, _, rfl, .of g1, by rw [rl.length]; exact (setAll_len h3).symm, tus e rl h3 fun σ' e' _ _ => h5 σ' H1 Z1 η1 e' .refl⟩
  · cases h2
    cases (show PyS.Rep c.X.K c.fA H1 Z1 η1 v (.lst ds) from q) with
    | lst z g1 rl => exact .inr ⟨_, _, rfl, .of g1, by rw [rl.length]; exact (setAll_len h3).symm, tus e rl h3 fun σ' e' _ _ => h5 σ' H1 Z1 η1 e' .refl⟩
end
end PyS
end
section
namespace PyS
open PySem PySem.Spec PyProof.Rows L2
section
variable {c : Ct} {k ka kb : Kd} {σ : L2.St} {r : Py.Env} {H H1 H2 : Hp} {Z Z1 : Addr → Prop} {η η1 : List Addr} {ω ω1 : Py.Store} {D : Ends} {v : V} {d : Py.D}
/-! ### [.. for .. in .. if ..] -/
theorem jb_comp {elt tg iter : Expr} {ifs : List Expr} {scope : Scope} {own : List (Str × Nat)} {pos : Pos} {t : Py.Tgt} {mi : Py.Env → Py.M (List Py.D)} {mt : Py.Env → Py.M Bool} {me : Py.Env → Py.M Py.D} {m : Py.Env → Py.M Py.D}
    (hc : c.X.calm = true) (hN : c.X.N.Nodup) (hi : JI c false tg iter mi) (ok : BlkOk c.X.N c.X.env.scope scope own) (hown : own.map (·.2) = tgtIs t)
    (hg : ∀ (s : Shared) (H : Hp) (C : Addr) (cl : List (Str × Addr)) (fp : List Addr), PG (c.X.blk s H scope (compEnvC scope cl C c.X.env) fp) tg (gOf c.X.K t))
    (ht : ∀ (s : Shared) (H : Hp) (C : Addr) (cl : List (Str × Addr)) (fp : List Addr), PTs (c.X.blk s H scope (compEnvC scope cl C c.X.env) fp) ifs (tT c.still mt))
    (he : ∀ (s : Shared) (H : Hp) (C : Addr) (cl : List (Str × Addr)) (fp : List Addr), PE (c.X.blk s H scope (compEnvC scope cl C c.X.env) fp) elt (tE c.still .val me)) (hs : ∀ x, foldedSetIterable iter c.X.env x = pure x)
    (hm : m = fun r => Py.bnd (mi r) fun xs => Py.bnd (Py.compM xs (cStep t mt me r)) fun ys => Py.ret (.lst ys)) :
    JB c .frs (.ListComp elt [⟨tg, iter, ifs, 0⟩] scope pos) m := by
  subst hm
  refine JB.plain (.inr rfl) (PE.imp (pe_lc hc hN hi ok hg ht he hs) fun σ H Q h => ?_) (fun whole => rfl)
  rw [hown]
  exact comp_t h
theorem cmp0_eq {t : Py.Tgt} {me : Py.Env → Py.M Py.D} {r : Py.Env} (x : Py.D) : (Py.noexc (Py.bnd (Py.lif (Py.bindT (Py.wipeT r t) t x)) fun r' => Py.bnd (me r') fun y => Py.ret (some y))) = cStep t (fun _ => Py.ret true) me r x := rfl
theorem cmpi_eq {t : Py.Tgt} {mt me : Py.Env → Py.M Py.D} {r : Py.Env} (x : Py.D) : (Py.noexc (Py.bnd (Py.lif (Py.bindT (Py.wipeT r t) t x)) fun r' => Py.bnd (mt r') fun k => Py.bnd (Py.lif (Py.tru k)) fun k => if k = true then Py.bnd (me r') fun y => Py.ret (some y) else Py.ret none)) = cStep t (asT mt) me r x := by
  unfold cStep asT
  congr 1
  congr 1
  funext r'
  funext ω
  simp only [Py.bnd]
  cases mt r' ω with
  | stuck => rfl
  | exc x w => rfl
  | ok d w => cases d <;> rfl
/-! ### raise -/
theorem js_rse {x msg : Str} {j n : Nat} {a : Addr} {p p2 pos pos' : Pos} (hc : c.X.calm = true) (tk : Takes c.X c.W) (he : c.eA n = some a) (q : PySem.W.excIn c.X.K a He.veBase "ValueError.__new__" = true) (gC : c.X.mg x = some (.ref a)) (kC : PySem.W.keepIn c.X.K (.ref a) = true)
    (h1 : PySem.W.subIn c.X.K (.ref a) (.type "BaseException") = some true) (h2 : PySem.W.typeIn c.X.K (.ref a) = some (.type "type")) (hg : Gl c.X x) (hdb : (x == ("__debug__" : Str)) = false) :
    JS c (.Raise (some (.Call (.Name x p) [.Constant (.str msg) j p2] [] pos)) none pos') (fun r => Py.rseS n r) :=
  PS.imp (ps_raise hc tk (pmk_own PySem.F.excBase_ValueError q gC kC (raises_own h1 h2) hg hdb)) fun D σ H ⟨Z, η, ω, r, e, h⟩ => h σ H Z η a e .refl he
/-! ### isinstance of the error at hand -/
theorem jb_ise {i n0 : Nat} {a D0 E : Addr} {x y : Str} {p p1 p2 pos : Pos} {sub : Nat → Bool} (hxa : c.xa = some (i, a, n0)) (cR : CallR c.X (.builtin "isinstance") (rIsE c.X.K D0 a))
    (hN : c.X.N[i]? = some x) (hv : Vis c.X.env.scope x) (hd : (x == ("__debug__" : Str)) = false) (hcd : (x == ("__classdict__" : Str)) = false)
    (hgy : Gl c.X y) (hmy : c.X.mg y = some (.ref E)) (hdy : (y == ("__debug__" : Str)) = false) (hk : PySem.W.kitOne c.X.K (.ref D0) (.ref E) = some (sub n0)) (hg : Gl c.X "isinstance") (hm : c.X.mg "isinstance" = none) :
    JB c .val (.Call (.Name "isinstance" p) [.Name x p1, .Name y p2] [] pos) (fun r => Py.lif ((r.get i).exc.map fun n => .bl (sub n))) := by
  refine JB.plain (.inl rfl) (PE.imp (pe_callB (t := tCons (tVar i) (tCons (tC (.ref E)) tNil)) cR hg hm rfl (pa_cons (pe_var hN hv hd hcd) (pa_cons (pe_glob hgy hmy rfl hdy) pa_nil)) (by decide) rfl rfl rfl) fun σ H Q ⟨Z, η, ω, r, e, h⟩ => ?_) (fun whole => rfl)
  cases hx : Py.Env.get r i with
  | x n =>
    simp only [hx, Py.Slot.exc, Option.map_some] at h
    have hr : r[i]? = some (.x n) := by
      unfold Py.Env.get at hx
      rw [List.getD_eq_getElem?_getD] at hx
      cases q : r[i]? with
      | none => rw [q] at hx; cases hx
      | some s => rw [q] at hx; simp only [Option.getD_some] at hx; rw [hx]
    obtain ⟨a', h1, h2⟩ := e.sl.xs i n hr
    rw [hxa] at h1
    cases h1
    exact ⟨_, h2, _, _, _, rfl, fun u hu => hu, hk, h (.bl (sub n0)) H Z η ⟨.refl, e.w⟩ (.bl _)⟩
  | none => simp only [hx, Py.Slot.exc] at h; exact h.elim
  | v d => simp only [hx, Py.Slot.exc] at h; exact h.elim
  | o d => simp only [hx, Py.Slot.exc] at h; exact h.elim
end
end PyS
end
section
namespace PyS
open PySem PySem.Spec PyProof.Rows L2
section
variable {c : Ct} {k ka kb : Kd} {σ : L2.St} {r : Py.Env} {H H1 H2 : Hp} {Z Z1 : Addr → Prop} {η η1 : List Addr} {ω ω1 : Py.Store} {D : Ends} {v : V} {d : Py.D}
/-! ### sorted, max, min of ints -/
theorem sortInts_eq {ns ms : List Int} (h1 : ms.Perm ns) (h2 : ms.Pairwise (· ≤ ·)) : ms = Py.sortInts ns := by
  unfold Py.sortInts
  refine List.Perm.eq_of_pairwise (le := fun a b : Int => a ≤ b) (fun a b _ _ h1 h2 => Int.le_antisymm h1 h2) h2 ?_ (h1.trans (List.mergeSort_perm _ _).symm)
  have := List.pairwise_mergeSort (le := fun a b : Int => decide (a ≤ b)) (fun a b c h1 h2 => by simp at *; omega) (fun a b => by simp; omega) ns
  exact this.imp fun h => of_decide_eq_true h
theorem repL_ints {Z : Addr → Prop} {η : List Addr} : ∀ ns : List Int, c.RepL H Z η (ns.map V.int) (ns.map Py.D.int)
  | [] => .nil
  | n :: ns => .cons (.int n) (repL_ints ns)
theorem cs_sortedI : CallS c (.builtin "sorted") Py.sortedID := by
  refine ⟨_, cr_sortedI, ?_⟩
  intro vs ds z H Z η ω Q w hv hg q
  unfold Py.sortedID at hg
  split at hg <;> first | (cases hg; done) | skip
  obtain ⟨v, rfl, hw⟩ := hv.one
  obtain ⟨ns, h1, rfl⟩ := Option.map_eq_some_iff.mp hg
  obtain ⟨a, vs, rfl, h2, rl⟩ := hw.lst
  obtain ⟨rfl, rfl⟩ := toInts_rep rl h1
  refine ⟨a, ns, rfl, .of h2, fun ms p hp hs hn => ?_⟩
  rw [sortInts_eq hp hs]
  exact q _ _ (.inl ⟨p, hn, .inl ⟨_, _, rfl, rfl, rfl, repL_ints _⟩⟩)
theorem cs_max1I (hc : c.X.calm = true) : CallS c (.builtin "max") Py.max1ID := by
  refine ⟨_, cr_max hc, ?_⟩
  intro vs ds z H Z η ω Q w hv hg q
  unfold Py.max1ID at hg
  split at hg <;> first | (cases hg; done) | skip
  obtain ⟨v, rfl, hw⟩ := hv.one
  obtain ⟨ns, h1, hg⟩ := Option.bind_eq_some_iff.mp hg
  obtain ⟨m, h3, rfl⟩ := Option.map_eq_some_iff.mp hg
  obtain ⟨a, vs, rfl, h2, rl⟩ := hw.lst
  obtain ⟨rfl, rfl⟩ := toInts_rep rl h1
  obtain ⟨k1, k2⟩ := List.max?_eq_some_iff.mp h3
  refine ⟨a, ns, rfl, .of h2, List.length_pos_of_mem k1, fun m' h4 h5 => ?_⟩
  have : m' = m := Int.le_antisymm (k2 _ h4) (h5 _ k1)
  subst this
  exact flat_out q (.int _) fun _ z => by cases z
theorem cs_min1I (hc : c.X.calm = true) : CallS c (.builtin "min") Py.min1ID := by
  refine ⟨_, cr_min hc, ?_⟩
  intro vs ds z H Z η ω Q w hv hg q
  unfold Py.min1ID at hg
  split at hg <;> first | (cases hg; done) | skip
  obtain ⟨v, rfl, hw⟩ := hv.one
  obtain ⟨ns, h1, hg⟩ := Option.bind_eq_some_iff.mp hg
  obtain ⟨m, h3, rfl⟩ := Option.map_eq_some_iff.mp hg
  obtain ⟨a, vs, rfl, h2, rl⟩ := hw.lst
  obtain ⟨rfl, rfl⟩ := toInts_rep rl h1
  obtain ⟨k1, k2⟩ := List.min?_eq_some_iff.mp h3
  refine ⟨a, ns, rfl, .of h2, List.length_pos_of_mem k1, fun m' h4 h5 => ?_⟩
  have : m' = m := Int.le_antisymm (h5 _ k1) (k2 _ h4)
  subst this
  exact flat_out q (.int _) fun _ z => by cases z
/-! ### xs.index(y) -/
theorem lstD_some {d : Py.D} {xs : List Py.D} (h : Py.lstD d = some xs) : d = .lst xs := by
  cases d <;> first | (cases h; rfl) | cases h
theorem toPys_get : ∀ {ys : List Py.D} {i : Nat} {y : Py.D}, ys[i]? = some y → (toPys ys)[i]? = some (toPy y)
  | [], i, y, h => by simp at h
  | y :: ys, 0, z, h => by simp at h; subst h; simp [toPys]
  | y :: ys, i + 1, z, h => by
    simp only [List.getElem?_cons_succ] at h
    simp only [toPys, List.getElem?_cons_succ]
    exact toPys_get h
theorem toPys_len : ∀ (ys : List Py.D), (toPys ys).length = ys.length
  | [] => rfl
  | y :: ys => by simp [toPys, toPys_len ys]
theorem jb_idx {a e : Expr} {apos cpos : Pos} {ma me : Py.Env → Py.M Py.D} (hr : c.X.A.units + 65 < cLine) (ha : JE c ka a ma) (he : JE c kb e me) (hbase : attributeBase a "index" c.X.env (eval a c.X.env) = eval a c.X.env) (hs : starEach [e] c.X.env = [(false, eval e c.X.env)])
    (hline : (apos.endLine == cpos.line) = true) :
    JB c .val (.Call (.Attribute a "index" apos) [e] [] cpos) (fun r => Py.bnd (ma r) fun x => Py.bnd (Py.lif (Py.lstD x)) fun xs => Py.bnd (me r) fun y => Py.lif (Py.indexD xs y)) := by
  refine .plain (.inl rfl) (PE.imp (pe_bm PySem.F.plainAttrs_list PySem.F.slot_list_index PySem.F.type_list_index (mt_indexD hr) ha (pa_cons he pa_nil hs) hbase (by rw [hs]; rfl) hline hs rfl) fun σ H Q q => ?_) (fun _ => rfl)
  refine tE.mono q.bnd fun v H1 ⟨Z, η, Z1, η1, ω1, r, d, e, s, rd, q⟩ => ?_
  replace q : post c .val σ r H Z η Q (Py.bnd (Py.lif (Py.lstD d)) (fun xs => Py.bnd (me r) fun y => Py.lif (Py.indexD xs y)) ω1) := q
  cases hl : Py.lstD d with
  | none => rw [hl] at q; exact q.elim
  | some xs =>
    rw [hl] at q
    have q : post c .val σ r H Z η Q (Py.bnd (me r) (fun y => Py.lif (Py.indexD xs y)) ω1) := q
    obtain rfl := lstD_some hl
    have vd := rd.view e
    obtain ⟨p0, us, rfl, hp, rl⟩ := vd.lst
    refine ⟨.inl ⟨rfl, _, .of hp⟩, ?_⟩
    have hm0 : Mid c .val ka σ H Q (fun r _ => Py.bnd (me r) fun y => Py.lif (Py.indexD xs y)) (.ref p0) H1 := ⟨Z, η, Z1, η1, ω1, r, _, e, s, rd, q⟩
    have hm2 : Mid c .val ka σ H Q (fun r x => Py.bnd (me r) fun y => Py.lif ((Py.lstD x).bind fun xs => Py.indexD xs y)) (.ref p0) H1 := ⟨Z, η, Z1, η1, ω1, r, _, e, s, rd, q⟩
    refine tE.mono (k := kb) hm2.bnd fun u H2 hx => ?_
    obtain ⟨Z, η, Z2, η2, ω2, r, d, e, y, e2, s2, vd, ve, hg, q⟩ := hx.pure (g := fun x y => (Py.lstD x).bind fun xs => Py.indexD xs y)
    obtain ⟨ys, h1, h2⟩ := Option.bind_eq_some_iff.mp hg
    obtain rfl := lstD_some h1
    unfold Py.indexD at h2
    split at h2
    case isFalse => cases h2
    case isTrue hs =>
      obtain ⟨i, h3, rfl⟩ := Option.map_eq_some_iff.mp h2
      rw [Bool.and_eq_true] at hs
      obtain ⟨k1, k2⟩ := ve.dp (shS_of hs.1)
      obtain ⟨k3, k4⟩ := vd.dp9 hs.2
      have hall : ∀ y ∈ ys, Py.shp 8 y = true := by simpa using hs.2
      obtain ⟨hi, h5, h6⟩ := List.findIdx?_eq_some_iff_getElem.mp h3
      refine ⟨p0, u, toPy e, toPys ys, i, toPy ys[i], rfl, rfl, k3, k1, k4, k2, toPys_get (List.getElem?_eq_getElem hi), ?_, fun m z' hm hz => ?_, q _ _ Z2 η2 ⟨s2, e2.w⟩ (.int _)⟩
      · rw [eqv_toPy _ _ 8 8 (hall _ (List.getElem_mem _)) hs.1]; exact h5
      · have hmy : m < ys.length := Nat.lt_trans hm hi
        rw [toPys_get (List.getElem?_eq_getElem hmy)] at hz
        cases hz
        rw [eqv_toPy _ _ 8 8 (hall _ (List.getElem_mem _)) hs.1]
        have := h6 m hm
        simpa using this
end
end PyS
end
section
/-! sorted(xs) of texts, of tuples of ints and texts -/
namespace PyS
open PySem PySem.Spec PyProof.Rows L2
abbrev Ks := List (Int ⊕ List Nat)
def dI : Int ⊕ List Nat → Py.D
  | .inl i => .int i
  | .inr x => .str x
theorem txLt_eq : ∀ x y : List Nat, Py.txLt x y = decide (x < y)
  | [], [] => by simp [Py.txLt]
  | [], _ :: _ => by simp [Py.txLt]
  | _ :: _, [] => by simp [Py.txLt]
  | x :: xs, y :: ys => by
    rw [Py.txLt, txLt_eq xs ys]
    by_cases h1 : x < y
    · simp [h1, List.cons_lt_cons_iff]
    · by_cases h2 : y < x
      · have h3 : x ≠ y := by omega
        simp [h1, h2, h3, List.cons_lt_cons_iff]
      · have h3 : x = y := by omega
        simp [h3, List.cons_lt_cons_iff]
theorem ltI_k (a b : Int ⊕ List Nat) : Py.ltI (dI a) (dI b) = itemLt a b := by
  cases a <;> cases b <;> simp [dI, Py.ltI, itemLt, txLt_eq, PyProof.Rows.strKind]
theorem ltFl_k : ∀ as bs : Ks, Py.ltFl (as.map dI) (bs.map dI) = lexLt itemOrd as bs
  | [], [] => rfl
  | [], _ :: _ => rfl
  | _ :: _, [] => rfl
  | a :: as, b :: bs => by
    rw [List.map_cons, List.map_cons, Py.ltFl, ltI_k, ltI_k, ltFl_k as bs, lex_cons]
abbrev ltK : Ks → Ks → Bool := lexLt itemOrd
theorem ltK_swo : SrtO.Swo ltK := by
  refine ⟨fun x y h => ?_, fun x y z h1 h2 => ?_⟩
  · cases q : ltK y x with
    | false => rfl
    | true =>
      have := lex_trans (O := itemOrd) x y x h q
      rw [lex_irrefl] at this
      cases this
  · cases q : ltK z x with
    | false => rfl
    | true =>
      rcases lex_negTrans (O := itemOrd) z y x q with h | h
      · rw [show lexLt itemOrd z y = false from h2] at h; cases h
      · rw [show lexLt itemOrd y x = false from h1] at h; cases h
theorem swo_pull {α β : Type} {lt : β → β → Bool} (O : SrtO.Swo lt) (f : α → β) : SrtO.Swo fun x y => lt (f x) (f y) := ⟨fun x y => O.asym _ _, fun x y z => O.tr _ _ _⟩
/-! the insertion sort is the stable one -/
theorem insB_stb {α : Type} {lt : α → α → Bool} (O : SrtO.Swo lt) (x : α) : ∀ ys : List α, SrtO.Stb lt (Py.insB lt x ys) (x :: ys)
  | [] => .refl _
  | y :: ys => by
    simp only [Py.insB]
    split
    · rename_i h
      have ih := insB_stb O x ys
      refine ⟨(ih.perm.cons y).trans (.swap x y ys), fun z => ?_⟩
      have c := ih.cls z
      simp only [List.filter_cons] at c ⊢
      by_cases q1 : SrtO.eqv lt z y = true
      · by_cases q2 : SrtO.eqv lt z x = true
        · exfalso
          obtain ⟨a1, a2⟩ := SrtO.eqv_iff.mp q1
          obtain ⟨b1, b2⟩ := SrtO.eqv_iff.mp q2
          have := O.tr x z y b1 a2
          rw [h] at this
          cases this
        · simp only [q2, if_false] at c
          simp [q1, q2, c]
      · simp only [q1, if_false]
        rw [c]
        simp
    · exact .refl _
theorem isort_stb {α : Type} {lt : α → α → Bool} (O : SrtO.Swo lt) : ∀ xs : List α, SrtO.Stb lt (Py.isort lt xs) xs
  | [] => .refl _
  | x :: xs => by
    have h := isort_stb O xs
    exact (insB_stb O x _).trans ((SrtO.Stb.refl [x]).app h)
theorem insB_srtd {α : Type} {lt : α → α → Bool} (O : SrtO.Swo lt) (x : α) : ∀ ys : List α, SrtO.Srtd lt ys → SrtO.Srtd lt (Py.insB lt x ys)
  | [], _ => SrtO.srtd_one x
  | y :: ys, h => by
    simp only [Py.insB]
    obtain ⟨h1, h2⟩ := List.pairwise_cons.mp h
    split
    · rename_i q
      refine List.pairwise_cons.mpr ⟨fun z hz => ?_, insB_srtd O x ys h2⟩
      rcases List.mem_cons.mp ((insB_stb O x ys).perm.mem_iff.mp hz) with rfl | hz
      · exact O.asym _ _ q
      · exact h1 z hz
    · rename_i q
      have q : lt y x = false := by simpa using q
      refine List.pairwise_cons.mpr ⟨fun z hz => ?_, h⟩
      rcases List.mem_cons.mp hz with rfl | hz
      · exact q
      · exact O.tr _ _ _ q (h1 z hz)
theorem isort_srtd {α : Type} {lt : α → α → Bool} (O : SrtO.Swo lt) : ∀ xs : List α, SrtO.Srtd lt (Py.isort lt xs)
  | [] => List.Pairwise.nil
  | x :: xs => insB_srtd O x _ (isort_srtd O xs)
theorem isort_uniq {α : Type} {lt : α → α → Bool} (O : SrtO.Swo lt) {l m : List α} (h1 : SrtO.Srtd lt l) (h2 : SrtO.Stb lt l m) : l = Py.isort lt m :=
  SrtO.stb_uniq O h1 (isort_srtd O m) (h2.trans ⟨(isort_stb O m).perm.symm, fun x => ((isort_stb O m).cls x).symm⟩)
theorem isort_map {α β : Type} {f : α → β} {lt : α → α → Bool} {lt' : β → β → Bool} (h : ∀ a b, lt' (f a) (f b) = lt a b) : ∀ xs : List α, Py.isort lt' (xs.map f) = (Py.isort lt xs).map f := by
  have ins : ∀ (x : α) (xs : List α), Py.insB lt' (f x) (xs.map f) = (Py.insB lt x xs).map f := by
    intro x xs
    induction xs with
    | nil => rfl
    | cons y ys ih =>
      simp only [List.map_cons, Py.insB, h]
      split
      · rw [ih]; rfl
      · rfl
  intro xs
  induction xs with
  | nil => rfl
  | cons x xs ih =>
    simp only [List.map_cons, Py.isort]
    rw [ih, ins]
/-! ### as a rule -/
def kI : Py.D → Int ⊕ List Nat
  | .int i => .inl i
  | .str x => .inr x
  | _ => .inl 0
section
variable {c : Ct} {H : Hp} {Z : Addr → Prop} {η : List Addr}
theorem fin_keys {K : Type} {ltk : K → K → Bool} (O : SrtO.Swo ltk) (kv : Value → K) (dk : K → Py.D) (hd : ∀ a b, Py.ltF (dk a) (dk b) = ltk a b) {us out : List Value} (h1 : SrtO.Srtd (fun u v => ltk (kv u) (kv v)) out) (h2 : SrtO.Stb (fun u v => ltk (kv u) (kv v)) out us) :
    out.map (fun u => dk (kv u)) = Py.isort Py.ltF (us.map fun u => dk (kv u)) := by
  have e := isort_uniq O (SrtO.srtd_map (f := kv) h1) (SrtO.Stb.map O kv h2)
  have e2 : ∀ l : List Value, l.map (fun u => dk (kv u)) = (l.map kv).map dk := fun l => by rw [List.map_map]; rfl
  rw [e2, e2, e, isort_map hd]
theorem rep_each {f : Value → Py.D} : ∀ {ws : List V} {us : List Value}, Vals ws us → c.RepL H Z η ws (us.map f) → ∀ u ∈ us, ∃ v, RelV v u ∧ c.Rep H Z η v (f u)
  | _, _, .nil, _, u, hu => by simp at hu
  | _, _, .cons r t, .cons q z, u, hu => by
    rcases List.mem_cons.mp hu with rfl | hu
    · exact ⟨_, r, q⟩
    · exact rep_each t z u hu
theorem rep_all {f : Value → Py.D} : ∀ {out : List Value}, (∀ u ∈ out, ∃ v, RelV v u ∧ c.Rep H Z η v (f u)) → ∃ ys, Vals ys out ∧ c.RepL H Z η ys (out.map f)
  | [], _ => ⟨[], .nil, .nil⟩
  | u :: out, h => by
    obtain ⟨v, h1, h2⟩ := h u (by simp)
    obtain ⟨ys, h3, h4⟩ := rep_all (out := out) fun x hx => h x (List.mem_cons_of_mem _ hx)
    exact ⟨v :: ys, .cons h1 h3, .cons h2 h4⟩
theorem items_key {sh : Nat → Bool} : ∀ {ws : List V} {us : List Value} {xs : List Py.D} {i : Nat}, Vals ws us → c.RepL H Z η ws xs → Py.shpF sh i xs = true → tupItems sh i us = some (xs.map kI) ∧ (xs.map kI).map dI = xs
  | _, _, _, _, .nil, .nil, _ => ⟨rfl, rfl⟩
  | _, _, _, i, .cons r t, .cons (d := d) q z, h => by
    cases q <;> first | (simp [Py.shpF] at h; done) | skip
    · obtain ⟨tk, rfl⟩ := r
      simp only [Py.shpF, Bool.and_eq_true, Bool.not_eq_true'] at h
      obtain ⟨e1, e2⟩ := items_key t z h.2
      refine ⟨?_, ?_⟩
      · rw [tupItems, if_neg (by rw [h.1]; decide), e1]; rfl
      · rw [List.map_cons, List.map_cons, e2]; rfl
    · obtain ⟨tk, rfl⟩ := r
      simp only [Py.shpF, Bool.and_eq_true] at h
      obtain ⟨e1, e2⟩ := items_key t z h.2
      refine ⟨?_, ?_⟩
      · rw [tupItems, if_pos h.1, e1]; rfl
      · rw [List.map_cons, List.map_cons, e2]; rfl
end
theorem dI_inj : ∀ as bs : Ks, as.map dI = bs.map dI → as = bs
  | [], [], _ => rfl
  | [], b :: bs, h => by simp at h
  | a :: as, [], h => by simp at h
  | a :: as, b :: bs, h => by
    simp only [List.map_cons, List.cons.injEq] at h
    have e1 : a = b := by
      have := h.1
      cases a <;> cases b <;> simp [dI] at this <;> rw [this]
    rw [e1, dI_inj as bs h.2]
/-- a tuple there, with its key -/
def TupK (h : Heap) (sh : Nat → Bool) (u : Value) (d : Py.D) : Prop := ∃ a o its n xs, u = .ref a ∧ h.get? a = some o ∧ o.cls = .type "tuple" ∧ o.data = .seq its n ∧ d = .tup xs ∧ xs ≠ [] ∧ Py.shpF sh 0 xs = true ∧ tupItems sh 0 its.toList = some (xs.map kI) ∧ (xs.map kI).map dI = xs
theorem TupK.keep {h g : Heap} {sh : Nat → Bool} {u : Value} {d : Py.D} (t : TupK h sh u d) (k : ∀ b o, h.get? b = some o → o.cls = .type "tuple" → g.get? b = some o) : TupK g sh u d := by
  obtain ⟨a, o, its, n, xs, e1, e2, e3, r⟩ := t
  exact ⟨a, o, its, n, xs, e1, k a o e2 e3, e3, r⟩
theorem TupK.key {h : Heap} {sh : Nat → Bool} {u : Value} {d : Py.D} (t : TupK h sh u d) : ∃ k, tupKey h sh u = some k ∧ d = .tup (k.map dI) := by
  obtain ⟨a, o, its, n, xs, rfl, e2, e3, e4, rfl, _, _, e5, e6⟩ := t
  refine ⟨xs.map kI, ?_, by rw [e6]⟩
  simp only [tupKey, e2, e4, e5]
theorem TupK.of {h : Heap} {sh : Nat → Bool} {u : Value} {d : Py.D} (t : TupK h sh u d) : ∃ f, TupOf h sh u f := by
  obtain ⟨a, o, its, n, xs, rfl, e2, e3, e4, rfl, e5, e6, e7, e8⟩ := t
  cases xs with
  | nil => exact absurd rfl e5
  | cons x r =>
    cases hl : its.toList with
    | nil => rw [hl] at e7; simp [tupItems] at e7
    | cons f r' =>
      have hf : its[0]? = some f := by rw [← Array.getElem?_toList, hl]; rfl
      rw [hl] at e7
      cases hs : sh 0 with
      | false =>
        obtain ⟨k, t, l, rfl, _, _⟩ := tupItems_int hs e7
        exact ⟨_, a, o, its, n, rfl, e2, e3, e4, hf, fun _ => ⟨_, _, rfl⟩, fun z => absurd (hs.symm.trans z) (by simp)⟩
      | true =>
        obtain ⟨k, t, l, rfl, _, _⟩ := tupItems_str hs e7
        exact ⟨_, a, o, its, n, rfl, e2, e3, e4, hf, fun z => absurd (hs.symm.trans z) (by simp), fun _ => ⟨_, _, rfl⟩⟩
theorem tups_of {h : Heap} {sh : Nat → Bool} : ∀ {us : List Value}, (∀ u ∈ us, ∃ d, TupK h sh u d) → ∃ fs, TupsOf h sh us fs ∧ fs.length = us.length
  | [], _ => ⟨[], .nil, rfl⟩
  | u :: us, k => by
    obtain ⟨d, hd⟩ := k u (by simp)
    obtain ⟨f, hf⟩ := hd.of
    obtain ⟨fs, h1, h2⟩ := tups_of (us := us) fun v hv => k v (List.mem_cons_of_mem _ hv)
    exact ⟨f :: fs, .cons hf h1, by simp [h2]⟩
theorem srt_tups {P : Program} {w : World} {A : Around} {t : Shared} {sh : Nat → Bool} {us : List Value} {kv : Value → Ks} {a : Addr} (h2 : 2 ≤ us.length) (hk : ∀ u ∈ us, ∃ d, TupK t.heap sh u d) (hv : ∀ u ∈ us, tupKey t.heap sh u = some (kv u)) (na : ∀ o, t.heap.get? a = some o → o.cls ≠ .type "tuple") :
    SrtO.SortableO P w A t a us fun u v => ltK (if u ∈ us then kv u else []) (if v ∈ us then kv v else []) := by
  intro g keep
  have kp : ∀ b o, t.heap.get? b = some o → o.cls = .type "tuple" → g.get? b = some o := fun b o e hc => keep b o (fun z => by subst z; exact na o e hc) e
  have hk' : ∀ u ∈ us, ∃ d, TupK g sh u d := fun u hu => let ⟨d, z⟩ := hk u hu; ⟨d, z.keep kp⟩
  have hv' : ∀ u ∈ us, tupKey g sh u = some (kv u) := fun u hu => by
    obtain ⟨d, z⟩ := hk u hu
    obtain ⟨k1, e1, d1⟩ := z.key
    obtain ⟨k2, e2, d2⟩ := (z.keep kp).key
    rw [hv u hu] at e1
    cases e1
    have : k2 = kv u := by
      have e := d1.symm.trans d2
      have e : (kv u).map dI = k2.map dI := by simpa using e
      exact (dI_inj _ _ e).symm
    rw [e2, this]
  obtain ⟨fs, f1, f2⟩ := tups_of hk'
  refine ⟨tuples' true, fun Q E q => tup_kind (s := { t with heap := g }) (by omega) f1 q, ?_⟩
  intro x y hx hy
  refine tup_ltAt (s := { t with heap := g }) true A _ x.1 y.1 (kv x.1) (kv y.1) (hv' _ hx) (hv' _ hy) ⟨rfl, ?_⟩
  show lexLt itemOrd (kv x.1) (kv y.1) = ltK _ _
  rw [if_pos hx, if_pos hy]
section
variable {c : Ct}
def rSrt (c : Ct) : List V → Hp → VK → Prop := fun vs H Q => ∃ Z η ω ds z, c.WI H Z η ω ∧ Views c H Z η vs ds ∧ Py.sortedD ds = some z ∧ ∀ v H', OutS c H Z η z v H' → Q v H'
theorem swoF : SrtO.Swo (fun _ _ : Value => false) := ⟨fun _ _ h => (by cases h), fun _ _ _ _ _ => rfl⟩
/-- the end of a sort -/
theorem srt_fin {pins : List (Addr × Obj)} {σ : L2.St} {H : Hp} {s : Shared} {Q : VK} {Z : Addr → Prop} {η : List Addr} {us out : List Value} {xs : List Py.D} {f : Value → Py.D} {ws : List V} (I : Inv c.X pins σ H s) (few : us.length ≤ sizeLine) (perm : out.Perm us)
    (rv : Vals ws us) (rl : c.RepL H Z η ws (us.map f)) (ho : out.map f = xs) (q : ∀ v H', OutS c H Z η (.lst xs) v H' → Q v H') : EP c.X pins σ Q (.ref (s.heap.objs.size + 1)) { s with heap := sortedAll s.heap us out.toArray } := by
  obtain ⟨ys, y1, y2⟩ := rep_all (out := out) fun u hu => rep_each rv rl u (perm.mem_iff.mp hu)
  rw [ho] at y2
  obtain ⟨n, hn⟩ := sortedAll_at s.heap us out.toArray
  have fr : H (s.heap.objs.size + 1) = none := I.hok.fresh (Nat.le_succ _)
  refine ⟨.ref (s.heap.objs.size + 1), upd H (s.heap.objs.size + 1) (.lst ys), I.laid (t' := s.toks) (fun b o e => sortedAll_old e) (Nat.le_succ _) ⟨?_, out, n, y1, hn⟩, rfl, q _ _ (.inl ⟨_, fr, .inl ⟨_, _, rfl, rfl, rfl, y2⟩⟩)⟩
  rw [y1.length, perm.length_eq]
  exact few
def stK : Value → List Nat
  | .str x _ => x.cps.toList
  | _ => []
theorem swoL : SrtO.Swo (fun a b : List Nat => decide (a < b)) := by
  refine ⟨fun x y h => ?_, fun x y z h1 h2 => ?_⟩
  · cases q : decide (y < x) with
    | false => rfl
    | true => exact absurd (PyProof.Rows.strKind.trans x y x h q) (by rw [PyProof.Rows.strKind.irrefl]; simp)
  · cases q : decide (z < x) with
    | false => rfl
    | true =>
      rcases PyProof.Rows.strKind.negTrans z y x q with h | h
      · rw [show decide (z < y) = true from h] at h2; cases h2
      · rw [show decide (y < x) = true from h] at h1; cases h1
theorem strs_all {H : Hp} {Z : Addr → Prop} {η : List Addr} : ∀ {ws : List V} {us : List Value} {xs : List Py.D}, Vals ws us → c.RepL H Z η ws xs → xs.all Py.strF = true → (∀ u ∈ us, ∃ x tk, u = .str x tk) ∧ xs = us.map fun u => Py.D.str (stK u)
  | _, _, _, .nil, .nil, _ => ⟨by simp, rfl⟩
  | _, _, _, .cons r t, .cons q z, h => by
    simp only [List.all_cons, Bool.and_eq_true] at h
    obtain ⟨k1, k2⟩ := strs_all t z h.2
    cases q <;> first | (simp [Py.strF] at h; done) | skip
    obtain ⟨tk, rfl⟩ := r
    refine ⟨fun u hu => ?_, ?_⟩
    · rcases List.mem_cons.mp hu with rfl | hu
      · exact ⟨_, _, rfl⟩
      · exact k1 u hu
    · rw [List.map_cons, ← k2]
      rfl
theorem strsAre : ∀ us : List Value, (∀ u ∈ us, ∃ x tk, u = .str x tk) → ∃ zs : List Str, StrsAre us zs
  | [], _ => ⟨[], .nil⟩
  | u :: us, h => by
    obtain ⟨x, tk, rfl⟩ := h u (by simp)
    obtain ⟨zs, hz⟩ := strsAre us fun v hv => h v (List.mem_cons_of_mem _ hv)
    exact ⟨x :: zs, .cons x tk hz⟩
theorem kind_strs {P : Program} {w : World} {A : Around} {t : Shared} : ∀ {us : List Value}, (∀ u ∈ us, ∃ x tk, u = .str x tk) → 2 ≤ us.length → ∀ (Q : SortKind → Shared → Prop) (E : Value → Shared → Prop), Q oneType' t → wpAny (model P w) A (keyKind' us.toArray) Q E t
  | [], _, h2, _, _, _ => by simp at h2
  | [_], _, h2, _, _, _ => by simp at h2
  | u :: v :: us, h, _, Q, E, q => by
    obtain ⟨zs, hz⟩ := strsAre _ h
    rw [keyKind_strs hz]
    exact wpAny_pure q
theorem tups_all {pins : List (Addr × Obj)} {σ : L2.St} {H : Hp} {s : Shared} {Z : Addr → Prop} {η : List Addr} {sh : Nat → Bool} (I : Inv c.X pins σ H s) : ∀ {ws : List V} {us : List Value} {xs : List Py.D}, Vals ws us → c.RepL H Z η ws xs → xs.all (Py.tupF sh) = true →
    (∀ u ∈ us, ∃ d, TupK s.heap sh u d) ∧ xs = us.map fun u => Py.D.tup (((tupKey s.heap sh u).getD []).map dI)
  | _, _, _, .nil, .nil, _ => ⟨by simp, rfl⟩
  | _, _, _, .cons r t, .cons q z, h => by
    simp only [List.all_cons, Bool.and_eq_true] at h
    obtain ⟨k1, k2⟩ := tups_all I t z h.2
    cases q <;> first | (simp [Py.tupF] at h; done) | skip
    rename_i p vs' ds' hp' rl'
    cases r
    obtain ⟨_, its, r2, o, ho, hc, n, hd⟩ := I.hok _ _ hp'
    have hne : ds' ≠ [] := fun e => by rw [e] at h; simp [Py.tupF] at h
    have hsh : Py.shpF sh 0 ds' = true := by
      cases ds' with
      | nil => exact absurd rfl hne
      | cons a b => simpa [Py.tupF] using h.1
    obtain ⟨i1, i2⟩ := items_key r2 rl' hsh
    have tk : TupK s.heap sh (.ref p) (.tup ds') := ⟨p, o, its.toArray, n, ds', rfl, ho, hc, hd, rfl, hne, hsh, by simpa using i1, i2⟩
    refine ⟨fun u hu => ?_, ?_⟩
    · rcases List.mem_cons.mp hu with rfl | hu
      · exact ⟨_, tk⟩
      · exact k1 u hu
    · obtain ⟨k, e1, e2⟩ := tk.key
      rw [List.map_cons, ← k2, e1, e2]
      rfl
theorem key_keep {h g : Heap} {sh : Nat → Bool} {us : List Value} (hk : ∀ u ∈ us, ∃ d, TupK h sh u d) (kp : ∀ b o, h.get? b = some o → g.get? b = some o) : (∀ u ∈ us, ∃ d, TupK g sh u d) ∧ ∀ u ∈ us, tupKey g sh u = some ((tupKey h sh u).getD []) := by
  refine ⟨fun u hu => let ⟨d, z⟩ := hk u hu; ⟨d, z.keep fun b o e _ => kp b o e⟩, fun u hu => ?_⟩
  obtain ⟨d, z⟩ := hk u hu
  obtain ⟨k, e, _⟩ := z.key
  obtain ⟨a, o, its, n, xs, rfl, e2, e3, e4, _⟩ := z
  rw [e]
  simp only [tupKey, e2, e4] at e
  simp only [tupKey, kp _ _ e2, e4]
  rw [e]
  rfl
theorem isort_short : ∀ xs : List Py.D, xs.length < 2 → Py.isort Py.ltF xs = xs
  | [], _ => rfl
  | [x], _ => rfl
  | _ :: _ :: _, h => absurd h (by simp)
theorem perm_short {α : Type} : ∀ {us out : List α}, us.length < 2 → out.Perm us → out = us
  | [], _, _, p => p.eq_nil
  | [u], _, _, p => List.perm_singleton.mp p
  | _ :: _ :: _, _, h, _ => absurd h (by simp)
theorem new_list {g : Heap} {b : Addr} {us : List Value} (hb : g.get? b = some (seqObj "list" us.toArray 0)) : ∀ o, g.get? b = some o → o.cls ≠ .type "tuple" := fun o e hc => by
  rw [hb] at e
  cases e
  exact absurd (Value.type.inj hc) (by decide)
section
variable {pins : List (Addr × Obj)} {σ : L2.St} {H : Hp} {s : Shared} {Q : VK} {Z : Addr → Prop} {η : List Addr} {us : List Value} {xs : List Py.D} {ws : List V} {a : Addr}
theorem srt_short (I : Inv c.X pins σ H s) (few : us.length ≤ sizeLine) (rv : Vals ws us) (rl : c.RepL H Z η ws xs) (hp : IsLT s.heap a us) (ok : xs.length < 2) (q : ∀ v H', OutS c H Z η (.lst (Py.isort Py.ltF xs)) v H' → Q v H') : wpAny (model c.X.prog c.X.w) c.X.A (call (.builtin "sorted") [.ref a]) (EP c.X pins σ Q) c.X.xe s := by
  have hlen : us.length = xs.length := by rw [← rv.length, rl.length]
  refine sorted_lt swoF hp few (fun h2 => absurd h2 (by omega)) fun out h1 h2 => ?_
  have eo : out = us := perm_short (by omega) h2.perm
  rw [isort_short xs ok] at q
  obtain ⟨n, hn⟩ := sortedAll_at s.heap us out.toArray
  have fr : H (s.heap.objs.size + 1) = none := I.hok.fresh (Nat.le_succ _)
  subst eo
  exact ⟨.ref (s.heap.objs.size + 1), upd H (s.heap.objs.size + 1) (.lst ws), I.laid (t' := s.toks) (fun b o e => sortedAll_old e) (Nat.le_succ _) ⟨by rw [rv.length]; exact few, out, n, rv, hn⟩, rfl, q _ _ (.inl ⟨_, fr, .inl ⟨_, _, rfl, rfl, rfl, rl⟩⟩)⟩
theorem srt_strs (I : Inv c.X pins σ H s) (few : us.length ≤ sizeLine) (rv : Vals ws us) (rl : c.RepL H Z η ws xs) (hp : IsLT s.heap a us) (ok : xs.all Py.strF = true) (q : ∀ v H', OutS c H Z η (.lst (Py.isort Py.ltF xs)) v H' → Q v H') : wpAny (model c.X.prog c.X.w) c.X.A (call (.builtin "sorted") [.ref a]) (EP c.X pins σ Q) c.X.xe s := by
  obtain ⟨st, ex⟩ := strs_all rv rl ok
  subst ex
  refine sorted_lt (ltv := fun u v => decide (stK u < stK v)) (swo_pull swoL stK) hp few (fun h2 g b hb keep g2 keep2 => ?_) fun out h1 h2 => ?_
  · exact ⟨oneType', fun Q E q => kind_strs st h2 Q E q, cmp_strs st fun x tk y tk' => rfl⟩
  · exact srt_fin I few h2.perm rv rl (fin_keys swoL stK Py.D.str (fun a b => by rw [Py.ltF, txLt_eq]) h1 h2) q
theorem srt_tupl {sh : Nat → Bool} (I : Inv c.X pins σ H s) (few : us.length ≤ sizeLine) (rv : Vals ws us) (rl : c.RepL H Z η ws xs) (hp : IsLT s.heap a us) (ok : xs.all (Py.tupF sh) = true) (q : ∀ v H', OutS c H Z η (.lst (Py.isort Py.ltF xs)) v H' → Q v H') : wpAny (model c.X.prog c.X.w) c.X.A (call (.builtin "sorted") [.ref a]) (EP c.X pins σ Q) c.X.xe s := by
  obtain ⟨hk, ex⟩ := tups_all I rv rl ok
  subst ex
  let kv : Value → Ks := fun u => (tupKey s.heap sh u).getD []
  have e0 : ∀ u ∈ us, (if u ∈ us then kv u else []) = kv u := fun u hu => if_pos hu
  refine sorted_lt (ltv := fun u v => ltK (if u ∈ us then kv u else []) (if v ∈ us then kv v else [])) (swo_pull ltK_swo fun u => if u ∈ us then kv u else []) hp few (fun h2 g b hb keep => ?_) fun out h1 h2 => ?_
  · obtain ⟨k1, k2⟩ := key_keep hk fun b o e => (keep b o e).2
    exact srt_tups (t := { s with heap := g }) h2 k1 k2 (new_list hb)
  · have z := fin_keys ltK_swo (fun u => if u ∈ us then kv u else []) (fun k => Py.D.tup (k.map dI)) (fun a b => by rw [Py.ltF, ltFl_k]) h1 h2
    have eu : us.map (fun u => Py.D.tup ((if u ∈ us then kv u else []).map dI)) = us.map fun u => Py.D.tup ((kv u).map dI) := List.map_congr_left fun u hu => by rw [if_pos hu]
    have eo : out.map (fun u => Py.D.tup ((if u ∈ us then kv u else []).map dI)) = out.map fun u => Py.D.tup ((kv u).map dI) := List.map_congr_left fun u hu => by rw [if_pos (h2.perm.mem_iff.mp hu)]
    rw [eu, eo] at z
    exact srt_fin I few h2.perm rv rl z q
end
theorem cs_sorted : CallS c (.builtin "sorted") Py.sortedD := by
  refine ⟨rSrt c, ?_, fun vs ds z H Z η ω Q w hv hg q => ⟨Z, η, ω, ds, z, w, hv, hg, q⟩⟩
  intro pins s σ H vs us0 Q I r ⟨Z, η, ω, ds, z, w, hv, hg, q⟩
  -- a list or a tuple
  obtain ⟨a, ws, xs, us, rfl, hz, rv, few, rl, hp⟩ : ∃ a ws xs us, vs = [.ref a] ∧ (Py.sortD xs).map Py.D.lst = some z ∧ Vals ws us ∧ us.length ≤ sizeLine ∧ c.RepL H Z η ws xs ∧ IsLT s.heap a us := by
    unfold Py.sortedD at hg
    split at hg <;> first | (cases hg; done) | skip
    · obtain ⟨v, rfl, hw⟩ := hv.one
      obtain ⟨a, ws, rfl, h2, rl⟩ := hw.lst
      obtain ⟨its, rv, hl0, hl⟩ := I.list (show SqL c.X.K H a ws from .of h2)
      obtain ⟨o, ho, hc, n, hd⟩ := hl0.isList
      exact ⟨a, ws, _, its, rfl, hg, rv, by rw [← rv.length]; exact hl, rl, o, n, ho, .inl hc, hd⟩
    · obtain ⟨v, rfl, hw⟩ := hv.one
      obtain ⟨a, ws, rfl, h2, rl⟩ := hw.tup
      obtain ⟨its, rv, ⟨o, ho, hc, n, hd⟩, hl⟩ := I.tuple (show SqT c.X.K H a ws from .of h2)
      exact ⟨a, ws, _, its, rfl, hg, rv, by rw [← rv.length]; exact hl, rl, o, n, ho, .inr hc, hd⟩
  rw [Vals.ref1 r]
  obtain ⟨zs, hs, rfl⟩ := Option.map_eq_some_iff.mp hz
  unfold Py.sortD at hs
  split at hs
  case isFalse => cases hs
  case isTrue ok =>
    cases hs
    unfold Py.sortOk at ok
    rw [Bool.or_eq_true, Bool.or_eq_true] at ok
    rcases ok with ok | ok | ok
    · exact srt_short I few rv rl hp (of_decide_eq_true ok) q
    · exact srt_strs I few rv rl hp ok q
    · obtain ⟨sh, _, ok⟩ := List.any_eq_true.mp ok
      exact srt_tupl I few rv rl hp ok q
end
end PyS
end
section
/-! sorted(set(xs)) of ints; list(range(..)) -/
namespace PyS
open PySem PySem.Spec PyProof.Rows L2
/-- set(xs), xs a list of ints -/
def rSetL (K : PySem.W.Frag) (w : World) : List V → Hp → VK → Prop := fun xs H Q => ∃ (l : Addr) (ns : List Int), xs = [V.ref l] ∧ SqL K H l (ns.map V.int) ∧ ns.length < 64 ∧ ∀ a c, H a = none → c ≤ ns.length → Q (.ref a) (upd H a (SetO w a (fun j => decide (j ∈ ns)) c))
theorem cr_setL {X : Cx} (hc : X.calm = true) : CallR X (.type "set") (rSetL X.K X.w) := by
  intro pins s σ H xs us Q I r h
  obtain ⟨l, ns, rfl, hl, few, q⟩ := h
  rw [Vals.ref1 r]
  obtain ⟨its, rv, pl, hz⟩ := I.list hl
  have hn : H s.heap.objs.size = none := I.hok.fresh (Nat.le_refl _)
  refine set_lstI (P := X.prog) (w := X.w) ns (I.ok.hd hc) pl.isList (by simpa using ints_of_vals rv) (by show ns.length + 1 < scanBound; unfold scanBound; omega) fun h' tk c R le k => ?_
  exact ⟨.ref s.heap.objs.size, upd H s.heap.objs.size (SetO X.w s.heap.objs.size (fun j => decide (j ∈ ns)) c), I.laid (t' := tk) k (Nat.le_refl _) (setO_new R), rfl, q _ c hn le⟩
theorem uins_mem {x y : Int} : ∀ {ys : List Int}, y ∈ Py.uins x ys ↔ y = x ∨ y ∈ ys
  | [] => by simp [Py.uins]
  | z :: zs => by
    unfold Py.uins
    split
    · simp
    · split
      · rename_i h; subst h; simp
      · simp only [List.mem_cons, uins_mem (ys := zs)]
        constructor
        · rintro (h | h | h) <;> simp [h]
        · rintro (h | h | h) <;> simp [h]
theorem usort_mem {y : Int} : ∀ {xs : List Int}, y ∈ Py.usort xs ↔ y ∈ xs
  | [] => by simp [Py.usort]
  | x :: xs => by
    show y ∈ Py.uins x (Py.usort xs) ↔ _
    rw [uins_mem, usort_mem, List.mem_cons]
theorem uins_asc (x : Int) : ∀ {ys : List Int}, ys.Pairwise (· < ·) → (Py.uins x ys).Pairwise (· < ·)
  | [], _ => by simp [Py.uins]
  | y :: ys, h => by
    obtain ⟨h1, h2⟩ := List.pairwise_cons.mp h
    unfold Py.uins
    split
    · rename_i q
      refine List.pairwise_cons.mpr ⟨fun z hz => ?_, h⟩
      rcases List.mem_cons.mp hz with rfl | hz
      · exact q
      · exact Int.lt_trans q (h1 z hz)
    · split
      · exact h
      · rename_i q1 q2
        refine List.pairwise_cons.mpr ⟨fun z hz => ?_, uins_asc x h2⟩
        rcases uins_mem.mp hz with rfl | hz
        · omega
        · exact h1 z hz
theorem usort_asc : ∀ xs : List Int, (Py.usort xs).Pairwise (· < ·)
  | [] => List.Pairwise.nil
  | x :: xs => uins_asc x (usort_asc xs)
/-- an ascending list is told by its members -/
theorem asc_uniq : ∀ {l m : List Int}, l.Pairwise (· < ·) → m.Pairwise (· < ·) → (∀ k, k ∈ l ↔ k ∈ m) → l = m
  | [], [], _, _, _ => rfl
  | [], y :: m, _, _, h => by have := (h y).mpr (by simp); simp at this
  | x :: l, [], _, _, h => by have := (h x).mp (by simp); simp at this
  | x :: l, y :: m, hl, hm, h => by
    obtain ⟨l1, l2⟩ := List.pairwise_cons.mp hl
    obtain ⟨m1, m2⟩ := List.pairwise_cons.mp hm
    have e : x = y := by
      rcases List.mem_cons.mp ((h x).mp (by simp)) with e | e
      · exact e
      · rcases List.mem_cons.mp ((h y).mpr (by simp)) with e2 | e2
        · exact e2.symm
        · have a := m1 x e
          have b := l1 y e2
          omega
    subst e
    congr 1
    refine asc_uniq l2 m2 fun k => ?_
    constructor
    · intro hk
      rcases List.mem_cons.mp ((h k).mp (by simp [hk])) with e | e
      · have := l1 k hk; omega
      · exact e
    · intro hk
      rcases List.mem_cons.mp ((h k).mpr (by simp [hk])) with e | e
      · have := m1 k hk; omega
      · exact e
section
variable {c : Ct} {ka kb : Kd}
theorem jb_ssetI {a : Expr} {p p2 pos pos2 : Pos} {m : Py.Env → Py.M Py.D} (hc : c.X.calm = true) (ha : JE c ka a m) (hg : Gl c.X "sorted") (hm : c.X.mg "sorted" = none) (hg2 : Gl c.X "set") (hm2 : c.X.mg "set" = none) (hs : starEach [a] c.X.env = [(false, eval a c.X.env)]) :
    JB c .frs (.Call (.Name "sorted" p) [.Call (.Name "set" p2) [a] [] pos2] [] pos) (fun r => Py.bnd (m r) fun x => Py.lif (Py.bltD .ssetI [x])) := by
  refine .plain (.inr rfl) (PE.imp (pe_callB (cr_sortedSet hc) hg hm rfl (pa_cons (pe_callTy (cr_setL hc) hg2 hm2 rfl (pa_cons ha pa_nil hs) (by decide) (by decide) hs rfl) pa_nil rfl) (by decide) (by decide) rfl rfl) fun σ H Q q => ?_) (fun _ => rfl)
  refine tE.mono q.bnd fun v H1 hx => ?_
  obtain ⟨Z, η, Z1, η1, ω1, r, d, y, en, s, vd, hg, q⟩ := hx.pure (g := fun x => Py.bltD .ssetI [x])
  replace hg : Py.ssetID [d] = some y := hg
  unfold Py.ssetID at hg
  split at hg <;> first | (cases hg; done) | skip
  rename_i xs e
  cases e
  obtain ⟨ns, h1, hg⟩ := Option.bind_eq_some_iff.mp hg
  split at hg
  case isFalse => cases hg
  case isTrue few =>
    cases hg
    obtain ⟨l, vs, rfl, h2, rl⟩ := vd.lst
    obtain ⟨rfl, rfl⟩ := toInts_rep rl h1
    refine ⟨l, ns, rfl, .of h2, few, fun a1 c1 n1 le1 => ?_⟩
    refine ⟨a1, fun j => decide (j ∈ ns), c1, rfl, upd_same, by omega, fun ms p asc mem len hn => ?_⟩
    have e : ms = Py.usort ns := asc_uniq asc (usort_asc ns) fun k => by rw [mem, usort_mem]; simp
    subst e
    have n0 : c.Nx H Z η H1 Z1 η1 ω1 := ⟨s, en.w⟩
    have n2 := n0.new (o := SetO c.X.w a1 (fun j => decide (j ∈ ns)) c1) n1
    exact q _ _ Z1 η1 (n2.new hn) (ResR.newL n2 hn (repL_ints _))
theorem rep_rg {H : Hp} {Z : Addr → Prop} {η : List Addr} : ∀ (n : Nat) (lo : Int), c.RepL H Z η ((List.range n).map fun i => V.int (lo + (i : Nat))) (Py.intsF lo n)
  | 0, lo => .nil
  | n + 1, lo => by
    rw [List.range_succ_eq_map, List.map_cons, List.map_map]
    refine .cons (by simpa using PyS.Rep.int lo) ?_
    have := rep_rg (H := H) (Z := Z) (η := η) n (lo + 1)
    have e : (List.range n).map ((fun i : Nat => V.int (lo + (i : Nat))) ∘ Nat.succ) = (List.range n).map fun i : Nat => V.int (lo + 1 + (i : Nat)) := List.map_congr_left fun i _ => by
      simp only [Function.comp]
      congr 1
      omega
    rw [e]
    exact this
theorem rgOk_of {i j : Int} (h : Py.rngOk i j = true) : RgOk i j := by
  have hb := rng_bounds h
  unfold RgOk
  omega
theorem lst_rg {i j : Int} {y : Py.D} {H H1 : Hp} {Z Z1 : Addr → Prop} {η η1 : List Addr} {ω1 : Py.Store} {r : Py.Env} {σ : L2.St} {Q : VK} (n0 : c.Nx H Z η H1 Z1 η1 ω1) (h : (Py.rngD i j).map Py.D.lst = some y) (q : ∀ v' H' Z' η', c.Nx H Z η H' Z' η' ω1 → ResR c .frs r σ H H' Z' η' v' y → Q v' H') :
    RgOk i j ∧ ∀ p, H1 p = none → Q (.ref p) (upd H1 p (.lst (rgV i j))) := by
  obtain ⟨xs, h1, rfl⟩ := Option.map_eq_some_iff.mp h
  unfold Py.rngD at h1
  split at h1
  case isFalse => cases h1
  case isTrue hb =>
    cases h1
    exact ⟨rgOk_of hb, fun p hp => q _ _ Z1 η1 (n0.new hp) (ResR.newL n0 hp (rep_rg _ _))⟩
theorem jb_lrng1 {a : Expr} {p p2 pos pos2 : Pos} {m : Py.Env → Py.M Py.D} (hc : c.X.calm = true) (ha : JE c ka a m) (hg : Gl c.X "list") (hm : c.X.mg "list" = none) (hg2 : Gl c.X "range") (hm2 : c.X.mg "range" = none) (hs : starEach [a] c.X.env = [(false, eval a c.X.env)]) :
    JB c .frs (.Call (.Name "list" p) [.Call (.Name "range" p2) [a] [] pos2] [] pos) (fun r => Py.bnd (m r) fun x => Py.lif (Py.bltD .lrng1 [x])) := by
  refine .plain (.inr rfl) (PE.imp (pe_listRg hc hg hm (prg_1 hg2 hm2 ha hs) rfl) fun σ H Q q => ?_) (fun _ => rfl)
  refine tE.mono q.bnd fun v H1 hx => ?_
  obtain ⟨Z, η, Z1, η1, ω1, r, d, y, en, s, vd, hg, q⟩ := hx.pure (g := fun x => Py.bltD .lrng1 [x])
  replace hg : Py.lrng1D [d] = some y := hg
  unfold Py.lrng1D at hg
  split at hg <;> first | (cases hg; done) | skip
  rename_i j e
  cases e
  exact ⟨j, vd.int, lst_rg ⟨s, en.w⟩ hg q⟩
theorem jb_lrng2 {a b : Expr} {p p2 pos pos2 : Pos} {m mb : Py.Env → Py.M Py.D} (hc : c.X.calm = true) (ha : JE c ka a m) (hb : JE c kb b mb) (hg : Gl c.X "list") (hm : c.X.mg "list" = none) (hg2 : Gl c.X "range") (hm2 : c.X.mg "range" = none)
    (hs : starEach [a, b] c.X.env = [(false, eval a c.X.env), (false, eval b c.X.env)]) (hs2 : starEach [b] c.X.env = [(false, eval b c.X.env)]) (hpl : (backTo pos2 (starEach [b] c.X.env)).any (·.1) = false) :
    JB c .frs (.Call (.Name "list" p) [.Call (.Name "range" p2) [a, b] [] pos2] [] pos) (fun r => Py.bnd (m r) fun x => Py.bnd (mb r) fun y => Py.lif (Py.bltD .lrng2 [x, y])) := by
  refine .plain (.inr rfl) (PE.imp (pe_listRg hc hg hm (prg_2 hg2 hm2 ha hb (by rw [hs, hs2]) (by rw [hs2]; rfl) hpl) rfl) fun σ H Q q => ?_) (fun _ => rfl)
  refine tE.mono q.bnd fun v H1 hx => tE.mono hx.bnd fun u H2 hy => ?_
  obtain ⟨Z, η, Z1, η1, ω1, r, d, e, y, en, s, vd, ve, hg, q⟩ := hy.pure (g := fun x y => Py.bltD .lrng2 [x, y])
  replace hg : Py.lrng2D [d, e] = some y := hg
  unfold Py.lrng2D at hg
  split at hg <;> first | (cases hg; done) | skip
  rename_i i j e'
  cases e'
  exact ⟨i, j, vd.int, ve.int, lst_rg ⟨s, en.w⟩ hg q⟩
end
end PyS
end
section
namespace PyS
open PySem PySem.Spec PyProof.Rows L2
open Builtin.Str (occurrences)
section
variable {c : Ct} {k ka kb : Kd} {σ : L2.St} {r : Py.Env} {H H1 H2 : Hp} {Z Z1 : Addr → Prop} {η η1 : List Addr} {ω ω1 : Py.Store} {D : Ends} {v : V} {d : Py.D}
/-! ### "abc".index(x) -/
def sidxOk (cs : List Nat) : Bool := (List.range cs.length).all fun i => match occurrences ⟨cs.toArray⟩ ⟨#[cs.getD i 0]⟩ 0 (Str.length ⟨cs.toArray⟩) 1 with
  | j :: _ => j == i
  | [] => false
theorem mt_sindex {X : Cx} : MtR X "str.index" (fun x xs H Q => ∃ a b, x = .str a ∧ xs = [.str b] ∧ (∃ i rest, occurrences a b 0 a.length 1 = i :: rest) ∧ Q (.int ((occurrences a b 0 a.length 1).headD 0 : Nat)) H) :=
  mt1C (C := fun a b => ∃ i rest, occurrences a b 0 a.length 1 = i :: rest) (g := fun a b => .int ((occurrences a b 0 a.length 1).headD 0 : Nat)) fun a b t u s Q hc h => by
    obtain ⟨i, rest, e⟩ := hc
    exact PySem.SC.index e (h _ (s.toks + 1) ⟨_, by rw [e]; rfl⟩)
def strIs (cs : List Nat) : Py.D → Option (List Nat)
  | .str t => if t = cs then some t else none
  | _ => none
theorem strIs_some {cs z : List Nat} {d : Py.D} (h : strIs cs d = some z) : d = .str cs ∧ z = cs := by
  unfold strIs at h
  split at h
  · split at h
    · rename_i t e
      cases h
      exact ⟨by rw [e], e⟩
    · cases h
  · cases h
theorem sidx_at {cs : List Nat} (ok : sidxOk cs = true) {i t : Nat} (h : cs.findIdx? (fun x => x == t) = some i) : ∃ rest, occurrences ⟨cs.toArray⟩ ⟨#[t]⟩ 0 (Str.length ⟨cs.toArray⟩) 1 = i :: rest := by
  obtain ⟨hi, h1, _⟩ := List.findIdx?_eq_some_iff_getElem.mp h
  have := List.all_eq_true.mp ok i (by simpa using hi)
  have e : cs.getD i 0 = t := by
    rw [List.getD_eq_getElem?_getD, List.getElem?_eq_getElem hi]
    exact eq_of_beq h1
  rw [e] at this
  cases q : occurrences ⟨cs.toArray⟩ ⟨#[t]⟩ 0 (Str.length ⟨cs.toArray⟩) 1 with
  | nil => rw [q] at this; cases this
  | cons j rest =>
    rw [q] at this
    exact ⟨rest, by rw [eq_of_beq this]⟩
theorem jb_sidx {x : Str} {cs : List Nat} {j : Nat} {p0 : Pos} {e : Expr} {apos cpos : Pos} {me : Py.Env → Py.M Py.D} (hx : x.cps.toList = cs) (hc : (cs.all fun c => decide (c < 1114112)) = true) (ok : sidxOk cs = true) (he : JE c kb e me)
    (hbase : attributeBase (.Constant (.str x) j p0) "index" c.X.env (eval (.Constant (.str x) j p0) c.X.env) = eval (.Constant (.str x) j p0) c.X.env) (hs : starEach [e] c.X.env = [(false, eval e c.X.env)])
    (hline : (apos.endLine == cpos.line) = true) :
    JB c .val (.Call (.Attribute (.Constant (.str x) j p0) "index" apos) [e] [] cpos) (fun r => Py.bnd (me r) fun y => Py.lif (Py.sidxD cs y)) := by
  refine .plain (.inl rfl) (PE.imp (pe_bm PySem.F.plainAttrs_str PySem.F.slot_str_index PySem.F.type_str_index mt_sindex (jb_str hx hc).je (pa_cons he pa_nil hs) hbase (by rw [hs]; rfl) hline hs rfl) fun σ H Q q => ?_) (fun _ => rfl)
  have ef : (fun r => Py.bnd (me r) fun y => Py.lif (Py.sidxD cs y)) = fun r => Py.bnd (Py.ret (Py.D.str cs)) fun x => Py.bnd (Py.lif (strIs cs x)) fun z => Py.bnd (me r) fun y => Py.lif (Py.sidxD z y) := by
    funext r
    have e : strIs cs (.str cs) = some cs := if_pos rfl
    show _ = Py.bnd (Py.lif (strIs cs (.str cs))) fun z => Py.bnd (me r) fun y => Py.lif (Py.sidxD z y)
    rw [e]
    rfl
  rw [ef] at q
  refine tE.mono q.bnd fun v H1 ⟨Z, η, Z1, η1, ω1, r, d, e, s, rd, q1⟩ => ?_
  replace q1 : post c .val σ r H Z η Q (Py.bnd (Py.lif (strIs cs d)) (fun z => Py.bnd (me r) fun y => Py.lif (Py.sidxD z y)) ω1) := q1
  cases hl : strIs cs d with
  | none => rw [hl] at q1; exact q1.elim
  | some z =>
    rw [hl] at q1
    obtain ⟨rfl, rfl⟩ := strIs_some hl
    have vd := rd.view e
    obtain ⟨rfl, _⟩ := vd.str
    refine ⟨rfl, ?_⟩
    have hm2 : Mid c .val .val σ H Q (fun r x => Py.bnd (me r) fun y => Py.lif ((strIs z x).bind fun z => Py.sidxD z y)) (.str ⟨z.toArray⟩) H1 := ⟨Z, η, Z1, η1, ω1, r, _, e, s, rd, by
      show post c .val σ r H Z η Q (Py.bnd (me r) (fun y => Py.lif ((strIs z (.str z)).bind fun z => Py.sidxD z y)) ω1)
      rw [hl]
      exact q1⟩
    refine tE.mono (k := kb) hm2.bnd fun u H2 hx => ?_
    obtain ⟨Z, η, Z2, η2, ω2, r, d, e, y, e2, s2, vd, ve, hg, q⟩ := hx.pure (g := fun x y => (strIs z x).bind fun z => Py.sidxD z y)
    obtain ⟨z', h1, h2⟩ := Option.bind_eq_some_iff.mp hg
    obtain ⟨rfl, rfl⟩ := strIs_some h1
    cases e <;> first | (simp [Py.sidxD] at h2; done) | skip
    rename_i t
    match t, h2, ve with
    | [t], h2, ve =>
      obtain ⟨i, h3, rfl⟩ := Option.map_eq_some_iff.mp h2
      obtain ⟨rfl, _⟩ := ve.str
      obtain ⟨rest, ho⟩ := sidx_at ok h3
      refine ⟨_, _, rfl, rfl, ⟨i, rest, ho⟩, ?_⟩
      rw [ho]
      exact q _ _ Z2 η2 ⟨s2, e2.w⟩ (.int _)
end
end PyS
end
section
/-! sorted of tuples, the empty one first -/
namespace PySem.W
open PySem PySem.Calls PyProof.Rows PySem.SeqAt
section
variable {prog : Program} {w : World} {A : Around} {E : Value → Shared → Prop} {s : Shared}
theorem call_tuple_lt {Q : Value → Shared → Prop} {l b : Addr} {items items2 : Array Value} {e r : Nat → Bool} (hl : PyProof.Rows.IsTup s.heap l items) (hb : PyProof.Rows.IsTup s.heap b items2)
    (he : ∀ j (h1 : j < items.size) (h2 : j < items2.size), EqAt A.in1 s items[j] items2[j] (e j)) (hr : ∀ j (h1 : j < items.size) (h2 : j < items2.size), e j = false → RcLt A.in1 s items[j] items2[j] (r j))
    (h : Q (.bool (firstLt e r (decide (items.size < items2.size)) (List.range (min items.size items2.size)))) s) : wpAny (model prog w) A (call (.builtin "tuple.__lt__") [.ref l, .ref b]) Q E s := by
  obtain ⟨⟨cls, dd, data, sl⟩, ho, hc, n, hd⟩ := id hl
  obtain ⟨⟨cls2, dd2, data2, sl2⟩, ho2, hc2, n2, hd2⟩ := id hb
  simp only at hc hd hc2 hd2
  subst hc hd hc2 hd2
  exact call_meets F.slot_tuple_lt ⟨_, ho, rfl⟩ F.entry_tuple_lt (F.args_tuple_lt_2 _ _) (tuple_ltAt l b items items2 n n2 dd dd2 sl sl2 e r) ⟨ho, ho2, he, hr, h⟩
theorem oneLt_tup {xs ys : List PyData} {a b : Value} {as bs : List Addr} {Q : Bool → Shared → Prop} (ra : Reads s.heap a (.tuple xs) as) (rb : Reads s.heap b (.tuple ys) bs) (h : alike (.tuple xs) (.tuple ys) = true)
    (hu : A.units + min (PyData.tuple xs).depth (PyData.tuple ys).depth < cLine) (hq : Q (dataLt (.tuple xs) (.tuple ys)) s) : wpAny (model prog w) A (oneLt' true a b) Q E s := by
  have hal : alikeAll xs ys = true := by simpa [alike] using h
  cases ra with
  | @tuple l o vs n _ as₁ h1 h2 h3 h4 =>
    cases rb with
    | @tuple l' o' vs' n' _ bs₁ k1 k2 k3 k4 =>
      have n1 : vs.size = xs.length := by simpa using ReadsAll.length _ _ _ h4
      have n2 : vs'.size = ys.length := by simpa using ReadsAll.length _ _ _ k4
      rw [dataLt_tuple, ← firstLt_toks xs ys hal, ← n1, ← n2] at hq
      rw [oneLt'_eq]
      simp only [if_true]
      refine wpAny_bind (wpAny_cRoomFor (room_here hu) ?_)
      refine wpAny_bind (wpAny_callSpecialIfBound?_slot (T := "tuple") ⟨_, h1, h2⟩ F.slot_tuple_lt (call_tuple_lt (e := pairEq xs ys) (r := fun j => dataLt (xs.getD j .none) (ys.getD j .none)) ⟨_, h1, h2, _, h3⟩ ⟨_, k1, k2, _, k3⟩ (fun j j1 j2 => ?_) (fun j j1 j2 hj => ?_) ?_))
      · have := eqAt_alikeAll xs ys A.in1 s vs.toList vs'.toList _ _ h4 k4 hal (room_in hu) j (by simpa using j1) (by simpa using j2)
        simpa using this
      · have := rcLt_alikeAll xs ys A.in1 s vs.toList vs'.toList _ _ h4 k4 hal (room_in hu) j (by simpa using j1) (by simpa using j2) hj
        simpa using this
      · exact wpAny_truthy_bool hq
theorem mapM_to {α β : Type} {M : Model} {f : α → Sem β} {g : α → β} : ∀ (l : List α) {Q : List β → Shared → Prop}, (∀ v ∈ l, ∀ (Q' : β → Shared → Prop), Q' (g v) s → wpAny M A (f v) Q' E s) → Q (l.map g) s → wpAny M A (l.mapM f) Q E s
  | [], _, _, h => by rw [List.mapM_nil]; exact wpAny_pure h
  | x :: l, Q, hf, h => by
    rw [List.mapM_cons]
    exact wpAny_bind (hf x (.head _) _ (wpAny_bind (mapM_to l (Q := fun bs s' => wpAny M A (pure (g x :: bs)) Q E s') (fun v hv => hf v (.tail _ hv)) (wpAny_pure h))))
def firstAt (h : Heap) : Value → Option Value
  | .ref l => match h.get? l with
    | some o => (match o.data with
      | Data.seq xs _ => xs[0]?
      | _ => none)
    | none => none
  | _ => none
theorem firstAt_tup {h : Heap} {l : Addr} {o : Obj} {xs : Array Value} {n : Nat} (k1 : h.get? l = some o) (k3 : o.data = .seq xs n) : firstAt h (.ref l) = xs[0]? := by
  unfold firstAt
  simp only [k1, k3]
theorem mix_kind {vs : List Value} {v₁ : Value} {ds : List PyData} {Q : SortKind → Shared → Prop} (h2 : 2 ≤ (v₁ :: vs).length) (e : ∀ v ∈ v₁ :: vs, ∃ xs as, Reads s.heap v (.tuple xs) as) (h1 : ∃ as, Reads s.heap v₁ (.tuple []) as) (h : Q oneType' s) :
    wpAny (model prog w) A (keyKind' (v₁ :: vs).toArray) Q E s := by
  have hT : ∀ v ∈ v₁ :: vs, Looks (model prog w) s.heap (typeOf v) (.type "tuple") := fun v hv => by
    obtain ⟨xs, as, r⟩ := e v hv
    exact looks_reads r
  obtain ⟨v₂, rest, rfl⟩ : ∃ v₂ rest, vs = v₂ :: rest := by
    cases vs with
    | nil => simp at h2
    | cons v r => exact ⟨v, r, rfl⟩
  have hg : ∃ g : Value → Option Value, g v₁ = none ∧ ∀ v ∈ v₁ :: v₂ :: rest, ∀ (Q' : Option Value → Shared → Prop), Q' (g v) s → wpAny (model prog w) A (firstOfTuple' v) Q' E s := by
    refine ⟨firstAt s.heap, ?_, fun v hv Q' hq => ?_⟩
    · obtain ⟨as, r⟩ := h1
      cases r with
      | @tuple l o xs n _ _ k1 k2 k3 k4 =>
        rw [firstAt_tup k1 k3]
        have : xs.toList = [] := by
          have := ReadsAll.length _ _ _ k4
          simpa using this
        have : xs = #[] := Array.toList_eq_nil_iff.mp this
        rw [this]
        rfl
    · obtain ⟨ys, as, r⟩ := e v hv
      rw [kas_first_eq]
      refine wpAny_bind ((hT v hv).here ?_)
      rw [if_neg (by decide)]
      cases r with
      | @tuple l o xs n _ _ k1 k2 k3 k4 =>
        refine wpAny_bind (wpAny_listItems k1 k3 (wpAny_pure ?_))
        rw [firstAt_tup k1 k3] at hq
        exact hq
  obtain ⟨g, g1, g2⟩ := hg
  rw [keyKind'_eq, List.mapM_toArray, map_eq_pure_bind]
  refine wpAny_bind (wpAny_bind (mapM_to (g := g) _ g2 (wpAny_pure ?_)))
  rw [if_neg (by simp [g1]), if_neg (by simp [g1])]
  rw [oneTypeOnly'_eq, List.mapM_toArray, map_eq_pure_bind]
  refine wpAny_bind (wpAny_bind (wpAny_bind (kas_mapM (r := Value.type "tuple") _ (fun v hv Q' hq => (hT v hv).here hq) (wpAny_pure ?_))))
  have hall : ((List.map (fun _ => Value.type "tuple") (v₁ :: v₂ :: rest)).toArray.all fun x => x == Value.type "tuple") = true := by
    simp only [List.all_toArray, List.all_map, List.all_eq_true]
    intro _ _
    rfl
  have h0 : (List.map (fun _ => Value.type "tuple") (v₁ :: v₂ :: rest)).toArray[0]? = some (Value.type "tuple") := by simp
  rw [h0]
  simp only [hall, if_true]
  exact wpAny_pure (wpAny_pure h)
/-- tuples of which the first is empty -/
def Mixed (ds : List PyData) : Prop := (∀ d, d ∈ ds → ∃ xs, d = .tuple xs) ∧ (∀ d r, ds = d :: r → d = .tuple [])
theorem SortsAt.mix {vs : List Value} {ds : List PyData} (e : EachIs (fun v d => ∃ as, Reads s.heap v d as) vs ds) (hal : AllAlike ds) (hk : Mixed ds) (hu : ∀ d, d ∈ ds → A.units + d.depth < cLine) : SortsAt prog w A s (dataKind s.heap ds) vs := by
  have room : ∀ {d d' : PyData}, d ∈ ds → A.units + min d.depth d'.depth < cLine := fun {d d'} hd => Nat.lt_of_le_of_lt (Nat.add_le_add_left (Nat.min_le_left _ _) _) (hu d hd)
  refine ⟨fun v hv => ?_, oneType', ?_, fun h2 E Q hq => ?_⟩
  · obtain ⟨d, hd, as, r⟩ := e.left v hv
    exact ⟨_, dataKind_some hal hd r⟩
  · intro E x y a b Q ha hb hq
    obtain ⟨d, as, hd, ra, rfl⟩ := dataKind_inv ha
    obtain ⟨d', as', hd', rb, rfl⟩ := dataKind_inv hb
    obtain ⟨xs, rfl⟩ := hk.1 d hd
    obtain ⟨ys, rfl⟩ := hk.1 d' hd'
    rw [keyLt'_oneType]
    exact oneLt_tup ra rb (hal _ hd _ hd') (room hd) hq
  · cases e with
    | nil => exact absurd h2 (by simp)
    | @cons v₁ d vs ds h t =>
      have hd := hk.2 d ds rfl
      subst hd
      refine mix_kind (ds := .tuple [] :: ds) h2 (fun v hv => ?_) h hq
      rcases List.mem_cons.mp hv with rfl | hv
      · exact ⟨[], h⟩
      · obtain ⟨d, hd, as, r⟩ := t.left v hv
        obtain ⟨xs, rfl⟩ := hk.1 d (by simp [hd])
        exact ⟨xs, as, r⟩
variable {β : Type} {vs : List Value} {bs : List β} {enc : β → PyData} {R : Value → β → Prop}
theorem sorted_mix {l : Addr} {Q : Value → Shared → Prop} (hl : s.heap.IsList l vs.toArray) (e : EachIs R vs bs) (er : EachIs (fun v b => ∃ as, Reads s.heap v (enc b) as) vs bs) (hal : AllAlike (bs.map enc)) (hk : Mixed (bs.map enc)) (hL : bs.length ≤ sizeLine)
    (hu : ∀ b, b ∈ bs → A.units + 2 + (enc b).depth < cLine) (h : ∀ out, out.length = bs.length → EachIs R out (bs.mergeSort (dataLe false enc)) → Q (.ref (s.heap.objs.size + 1)) { s with heap := sortedAll s.heap vs (List.toArray out) }) :
    wpAny (model prog w) A (call (.builtin "sorted") [.ref l]) Q E s := by
  have er' : EachIs (fun v b => ∃ as, Reads (sortingHeap (copyHeap s.heap vs) (s.heap.objs.size + 1) vs) v (enc b) as) vs bs := er.mono fun _ _ ⟨as, r⟩ => ⟨as, PyProof.Rows.Reads.keeps (fun _ _ => sorting_copy_old) r⟩
  exact sorted_vals hl (SortsAt.mix (s := { s with heap := sortingHeap (copyHeap s.heap vs) (s.heap.objs.size + 1) vs }) (each_map (R := fun v d => ∃ as, Reads (sortingHeap (copyHeap s.heap vs) (s.heap.objs.size + 1) vs) v d as) enc er') hal hk (bound_map hu)) (by rw [e.length]; exact hL)
    (h _ (by rw [sortVals_length false rfl]; exact e.length) (sortVals_data false e er' hal))
end
end PySem.W
end
section
namespace PyS
open PySem PySem.Spec PyProof.Rows L2
/-! ### min, max, sorted of data of any depth -/
mutual
theorem like_toPy : ∀ (x y : Py.D), Py.likeD x y = true → PySem.W.alike (toPy x) (toPy y) = true
  | .int _, y, h => by cases y <;> first | (simp [Py.likeD] at h; done) | simp [toPy, PySem.W.alike]
  | .str _, y, h => by cases y <;> first | (simp [Py.likeD] at h; done) | simp [toPy, PySem.W.alike]
  | .tup xs, y, h => by
    cases y <;> first | (simp [Py.likeD] at h; done) | skip
    rename_i ys
    simp only [toPy, PySem.W.alike]
    exact likeL_toPy xs ys (by simpa [Py.likeD] using h)
  | .non, y, h => by simp [Py.likeD] at h
  | .bl _, y, h => by simp [Py.likeD] at h
  | .lst _, y, h => by simp [Py.likeD] at h
  | .scr _, y, h => by simp [Py.likeD] at h
  | .fn _, y, h => by simp [Py.likeD] at h
  | .loc _, y, h => by simp [Py.likeD] at h
  | .exc _, y, h => by simp [Py.likeD] at h
  | .clo _ _, y, h => by simp [Py.likeD] at h
theorem likeL_toPy : ∀ (xs ys : List Py.D), Py.likeL xs ys = true → PySem.W.alikeAll (toPys xs) (toPys ys) = true
  | [], [], _ => by simp [toPys, PySem.W.alikeAll]
  | [], _ :: _, _ => by simp [toPys, PySem.W.alikeAll]
  | _ :: _, [], _ => by simp [toPys, PySem.W.alikeAll]
  | x :: xs, y :: ys, h => by
    obtain ⟨h1, h2⟩ := Bool.and_eq_true_iff.mp (show (Py.likeD x y && Py.likeL xs ys) = true by simpa [Py.likeL] using h)
    simp only [toPys, PySem.W.alikeAll, like_toPy x y h1, likeL_toPy xs ys h2, Bool.and_self]
end
mutual
theorem lt_toPy : ∀ (x y : Py.D) (n m : Nat), Py.likeD x y = true → Py.shp n x = true → Py.shp m y = true → PySem.W.dataLt (toPy x) (toPy y) = Py.ltG x y
  | .int _, y, n, m, h, _, _ => by
    cases y <;> first | (simp [Py.likeD] at h; done) | skip
    simp only [toPy, Py.ltG]
    exact PySem.W.dataLt_int _ _
  | .str _, y, n, m, h, _, _ => by
    cases y <;> first | (simp [Py.likeD] at h; done) | skip
    simp only [toPy, Py.ltG]
    rw [PySem.W.dataLt_str, txLt_iff]
  | .tup xs, y, n, m, h, hx, hy => by
    cases y <;> first | (simp [Py.likeD] at h; done) | skip
    rename_i ys
    cases n with
    | zero => simp [Py.shp] at hx
    | succ n => cases m with
      | zero => simp [Py.shp] at hy
      | succ m =>
        simp only [toPy, Py.ltG]
        rw [PySem.W.dataLt_tuple]
        exact ltl_toPy xs ys n m (by simpa [Py.likeD] using h) (by simpa [Py.shp] using hx) (by simpa [Py.shp] using hy)
  | .non, y, n, m, h, _, _ => by simp [Py.likeD] at h
  | .bl _, y, n, m, h, _, _ => by simp [Py.likeD] at h
  | .lst _, y, n, m, h, _, _ => by simp [Py.likeD] at h
  | .scr _, y, n, m, h, _, _ => by simp [Py.likeD] at h
  | .fn _, y, n, m, h, _, _ => by simp [Py.likeD] at h
  | .loc _, y, n, m, h, _, _ => by simp [Py.likeD] at h
  | .exc _, y, n, m, h, _, _ => by simp [Py.likeD] at h
  | .clo _ _, y, n, m, h, _, _ => by simp [Py.likeD] at h
theorem ltl_toPy : ∀ (xs ys : List Py.D) (n m : Nat), Py.likeL xs ys = true → (∀ x ∈ xs, Py.shp n x = true) → (∀ y ∈ ys, Py.shp m y = true) → PyProof.Rows.lexLt itemOrd (PySem.W.keyToksAll (toPys xs)) (PySem.W.keyToksAll (toPys ys)) = Py.ltGl xs ys
  | [], [], n, m, _, _, _ => by simp only [toPys, Py.ltGl]; exact PyProof.Rows.lex_irrefl _
  | [], y :: ys, n, m, _, _, _ => by
    simp only [toPys, Py.ltGl, PySem.W.keyToksAll]
    refine (PyProof.Rows.lex_cons (O := itemOrd) _ _ _ _).trans ?_
    simp [itemLt]
  | x :: xs, [], n, m, _, _, _ => by
    simp only [toPys, Py.ltGl, PySem.W.keyToksAll]
    refine (PyProof.Rows.lex_cons (O := itemOrd) _ _ _ _).trans ?_
    simp [itemLt]
  | x :: xs, y :: ys, n, m, h, hx, hy => by
    obtain ⟨h1, h2⟩ := Bool.and_eq_true_iff.mp (show (Py.likeD x y && Py.likeL xs ys) = true by simpa [Py.likeL] using h)
    simp only [toPys, Py.ltGl]
    rw [PySem.W.dataLt_cons (like_toPy x y h1), eqv_toPy x y n m (hx x (by simp)) (hy y (by simp)), ltl_toPy xs ys n m h2 (fun z hz => hx z (by simp [hz])) (fun z hz => hy z (by simp [hz])), lt_toPy x y n m h1 (hx x (by simp)) (hy y (by simp))]
end
mutual
theorem toPy_inj : ∀ (x y : Py.D), Py.likeD x y = true → toPy x = toPy y → x = y
  | .int _, y, h, e => by
    cases y <;> first | (simp [Py.likeD] at h; done) | skip
    simp only [toPy, PyData.int.injEq] at e
    rw [e]
  | .str _, y, h, e => by
    cases y <;> first | (simp [Py.likeD] at h; done) | skip
    simp only [toPy, PyData.str.injEq] at e
    have e2 := congrArg (fun z : Str => z.cps.toList) e
    simp only at e2
    rw [e2]
  | .tup xs, y, h, e => by
    cases y <;> first | (simp [Py.likeD] at h; done) | skip
    rename_i ys
    simp only [toPy, PyData.tuple.injEq] at e
    rw [toPys_inj xs ys (by simpa [Py.likeD] using h) e]
  | .non, y, h, _ => by simp [Py.likeD] at h
  | .bl _, y, h, _ => by simp [Py.likeD] at h
  | .lst _, y, h, _ => by simp [Py.likeD] at h
  | .scr _, y, h, _ => by simp [Py.likeD] at h
  | .fn _, y, h, _ => by simp [Py.likeD] at h
  | .loc _, y, h, _ => by simp [Py.likeD] at h
  | .exc _, y, h, _ => by simp [Py.likeD] at h
  | .clo _ _, y, h, _ => by simp [Py.likeD] at h
theorem toPys_inj : ∀ (xs ys : List Py.D), Py.likeL xs ys = true → toPys xs = toPys ys → xs = ys
  | [], [], _, _ => rfl
  | [], _ :: _, _, e => by simp [toPys] at e
  | _ :: _, [], _, e => by simp [toPys] at e
  | x :: xs, y :: ys, h, e => by
    obtain ⟨h1, h2⟩ := Bool.and_eq_true_iff.mp (show (Py.likeD x y && Py.likeL xs ys) = true by simpa [Py.likeL] using h)
    simp only [toPys, List.cons.injEq] at e
    rw [toPy_inj x y h1 e.1, toPys_inj xs ys h2 e.2]
end
theorem toPys_map : ∀ xs : List Py.D, toPys xs = xs.map toPy
  | [] => rfl
  | x :: xs => by simp [toPys, toPys_map xs]
theorem allLike_ok {xs : List Py.D} (h : Py.allLike xs = true) : (∀ x ∈ xs, Py.shp 6 x = true) ∧ ∀ x ∈ xs, ∀ y ∈ xs, Py.likeD x y = true := by
  unfold Py.allLike at h
  rw [List.all_eq_true] at h
  refine ⟨fun x hx => (Bool.and_eq_true_iff.mp (h x hx)).1, fun x hx y hy => ?_⟩
  have := (Bool.and_eq_true_iff.mp (h x hx)).2
  rw [List.all_eq_true] at this
  exact this y hy
theorem like_ne {x : Py.D} (h : Py.likeD x x = true) : toPy x ≠ .none ∧ ∀ ds, x ≠ .lst ds := by
  cases x <;> first | (simp [Py.likeD] at h; done) | exact ⟨by simp [toPy], fun _ z => by cases z⟩
theorem best_mem (lt : Py.D → Py.D → Bool) : ∀ (xs : List Py.D) (b : Py.D), Py.bestB lt b xs ∈ b :: xs
  | [], b => by simp [Py.bestB]
  | x :: xs, b => by
    simp only [Py.bestB]
    have := best_mem lt xs (if lt b x then x else b)
    rcases List.mem_cons.mp this with h | h
    · rw [h]
      split <;> simp
    · simp [h]
section
variable {lt : Py.D → Py.D → Bool} {ltp : PyData → PyData → Bool}
theorem fold_best {C : Py.D → Prop} (hl : ∀ x y, C x → C y → ltp (toPy x) (toPy y) = lt x y) : ∀ (xs : List Py.D) (b : Py.D), C b → (∀ x ∈ xs, C x) → (xs.map toPy).foldl (fun a y => if ltp a y = true then y else a) (toPy b) = toPy (Py.bestB lt b xs)
  | [], b, _, _ => rfl
  | x :: xs, b, hb, hx => by
    simp only [List.map_cons, List.foldl_cons, Py.bestB]
    rw [hl b x hb (hx x (by simp))]
    have e : (if lt b x = true then toPy x else toPy b) = toPy (if lt b x = true then x else b) := by split <;> rfl
    rw [e]
    refine fold_best hl xs _ ?_ fun z hz => hx z (by simp [hz])
    split
    · exact hx x (by simp)
    · exact hb
end
def rBestD (K : PySem.W.Frag) (best : PyData → List PyData → PyData) : List V → Hp → VK → Prop := fun vs H Q => ∃ (a : Addr) (us : List V) (x : PyData) (xs : List PyData), vs = [V.ref a] ∧ SqL K H a us ∧ DpAll K H us (x :: xs) ∧ PySem.W.AlikeAll (x :: xs) ∧ best x xs ∈ x :: xs ∧ PyData.depthAll (x :: xs) ≤ 8 ∧
  ∀ (i : Nat) v, us[i]? = some v → (x :: xs)[i]? = some (best x xs) → Q v H
section
variable {X : Cx}
theorem best_of {pins : List (Addr × Obj)} {σ : L2.St} {H : Hp} {s : Shared} {Q : VK} {us : List V} {its : Array Value} {x : PyData} {xs : List PyData} {as : List Addr} {best : PyData → List PyData → PyData} (I : Inv X pins σ H s) (rv : Vals us its.toList) (hr : ReadsAll s.heap its.toList (x :: xs) as) (hal : PySem.W.AlikeAll (x :: xs)) (hm : best x xs ∈ x :: xs)
    (q : ∀ (i : Nat) v, us[i]? = some v → (x :: xs)[i]? = some (best x xs) → Q v H) (i : Nat) (v : Value) (h' : Heap) (tk : Nat) (bs : List Addr) (hv : its[i]? = some v) (hrd : Reads h' v (best x xs) bs) (hk : ∀ b o, s.heap.get? b = some o → h'.get? b = some o) :
    EP X pins σ Q v { s with heap := h', toks := tk } := by
  have hv' : its.toList[i]? = some v := by rw [Array.getElem?_toList]; exact hv
  obtain ⟨cs, r1, lt, mem, _⟩ := PySem.W.readsAll_at hr i v hv'
  have hlen := rv.length
  have hlt : i < us.length := by rw [hlen]; exact (List.getElem?_eq_some_iff.mp hv').1
  obtain ⟨u, e1, e2⟩ := rv.get (List.getElem?_eq_getElem hlt)
  rw [hv'] at e1
  cases e1
  have e3 : (x :: xs).getD i .none = best x xs := PySem.W.alike_unique _ _ v cs bs (hal.1 _ mem _ hm) (PySem.W.reads_keeps hk r1) hrd
  refine ⟨us[i], H, I.kept hk, e2, q i _ (List.getElem?_eq_getElem hlt) ?_⟩
  rw [List.getElem?_eq_getElem lt, ← e3, List.getD_eq_getElem?_getD, List.getElem?_eq_getElem lt]
  rfl
theorem cr_minD (hc : X.calm = true) (hu : X.A.units + 65 < cLine) : CallR X (.builtin "min") (rBestD X.K PySem.W.minD) := by
  intro pins s σ H vs us Q I r h
  obtain ⟨a, us', x, xs, rfl, hs, hd, hal, hm, hdp, q⟩ := h
  obtain ⟨its, rv, hl, _⟩ := I.list hs
  rw [Vals.ref1 r]
  obtain ⟨as, hr⟩ := Dp.readsAll I _ _ _ hd rv
  exact PySem.W.min_list_data (I.ok.hd hc) hl.isList (by simpa using hr) hal (by omega) (best_of (its := its.toArray) I (by simpa using rv) (by simpa using hr) hal hm q)
theorem cr_maxD (hc : X.calm = true) (hu : X.A.units + 65 < cLine) : CallR X (.builtin "max") (rBestD X.K PySem.W.maxD) := by
  intro pins s σ H vs us Q I r h
  obtain ⟨a, us', x, xs, rfl, hs, hd, hal, hm, hdp, q⟩ := h
  obtain ⟨its, rv, hl, _⟩ := I.list hs
  rw [Vals.ref1 r]
  obtain ⟨as, hr⟩ := Dp.readsAll I _ _ _ hd rv
  exact PySem.W.max_list_data (I.ok.hd hc) hl.isList (by simpa using hr) hal (by omega) (best_of (its := its.toArray) I (by simpa using rv) (by simpa using hr) hal hm q)
def rSortN (K : PySem.W.Frag) : List V → Hp → VK → Prop := fun vs H Q => ∃ (a : Addr) (ps : List (V × Py.D)), vs = [V.ref a] ∧ SqL K H a (ps.map Prod.fst) ∧ DpAll K H (ps.map Prod.fst) (ps.map fun p => toPy p.2) ∧ PySem.W.AllAlike (ps.map fun p => toPy p.2) ∧ (PySem.W.Sortable (ps.map fun p => toPy p.2) ∨ PySem.W.Mixed (ps.map fun p => toPy p.2)) ∧ ps.length ≤ sizeLine ∧
  (∀ p ∈ ps, (toPy p.2).depth ≤ 8) ∧ ∀ p, H p = none → Q (.ref p) (upd H p (.lst ((ps.mergeSort (PySem.W.dataLe false fun p => toPy p.2)).map Prod.fst)))
theorem each_vals : ∀ {ps : List (V × Py.D)} {us : List Value}, Vals (ps.map Prod.fst) us → PySem.W.EachIs (fun (u : Value) (p : V × Py.D) => RelV p.1 u) us ps
  | [], [], _ => .nil
  | [], _ :: _, h => by cases h
  | _ :: _, [], h => by cases h
  | p :: ps, u :: us, h => by
    cases h with
    | cons a b => exact .cons a (each_vals b)
theorem vals_each : ∀ {ps : List (V × Py.D)} {us : List Value}, PySem.W.EachIs (fun (u : Value) (p : V × Py.D) => RelV p.1 u) us ps → Vals (ps.map Prod.fst) us
  | _, _, .nil => .nil
  | _, _, .cons a b => .cons a (vals_each b)
theorem cr_sortN (hu : X.A.units + 65 < cLine) : CallR X (.builtin "sorted") (rSortN X.K) := by
  intro pins s σ H vs us Q I r h
  obtain ⟨a, ps, rfl, hs, hd, hal, hso, hl1, hdp, q⟩ := h
  obtain ⟨its, rv, hl, _⟩ := I.list hs
  rw [Vals.ref1 r]
  obtain ⟨as, hr⟩ := Dp.readsAll I _ _ _ hd rv
  have fin : ∀ out : List Value, out.length = ps.length → PySem.W.EachIs (fun (u : Value) (p : V × Py.D) => RelV p.1 u) out (ps.mergeSort (PySem.W.dataLe false fun p => toPy p.2)) → EP X pins σ Q (.ref (s.heap.objs.size + 1)) { s with heap := PyProof.Rows.sortedAll s.heap its (List.toArray out) } := fun out h1 h2 => by
    obtain ⟨ep, he'⟩ := PyProof.Rows.sortedAll_at s.heap its out.toArray
    have hv := vals_each h2
    have hlen : ((ps.mergeSort (PySem.W.dataLe false fun p => toPy p.2)).map Prod.fst).length ≤ sizeLine := by rw [List.length_map, List.length_mergeSort]; exact hl1
    exact ⟨.ref _, upd H (s.heap.objs.size + 1) (.lst ((ps.mergeSort (PySem.W.dataLe false fun p => toPy p.2)).map Prod.fst)), I.laid (t' := s.toks) (fun _ _ => PyProof.Rows.sortedAll_old) (Nat.le_succ _) ⟨hlen, out, ep, hv, he'⟩, rfl, q _ (I.hok.fresh (Nat.le_succ _))⟩
  rcases hso with hso | hso
  · exact PySem.W.sorted_data (R := fun (u : Value) (p : V × Py.D) => RelV p.1 u) (bs := ps) (enc := fun p => toPy p.2) hl.isList (each_vals rv) (PySem.W.readsAll_each (fun p : V × Py.D => toPy p.2) hr) hal hso hl1 (fun p hp => by have := hdp p hp; omega) fin
  · exact PySem.W.sorted_mix (R := fun (u : Value) (p : V × Py.D) => RelV p.1 u) (bs := ps) (enc := fun p => toPy p.2) hl.isList (each_vals rv) (PySem.W.readsAll_each (fun p : V × Py.D => toPy p.2) hr) hal hso hl1 (fun p hp => by have := hdp p hp; omega) fin
end
section
variable {c : Ct}
theorem best_end {best : PyData → List PyData → PyData} {lt : Py.D → Py.D → Bool} {H : Hp} {Z : Addr → Prop} {η : List Addr} {Q : VK} {v : V} {x : Py.D} {xs : List Py.D} (hb : ∀ x xs, (∀ y ∈ x :: xs, Py.shp 6 y = true) → (∀ y ∈ x :: xs, ∀ z ∈ x :: xs, Py.likeD y z = true) → best (toPy x) (xs.map toPy) = toPy (Py.bestB lt x xs))
    (hw : c.View H Z η v (.lst (x :: xs))) (hal : Py.allLike (x :: xs) = true) (q : ∀ v H', OutS c H Z η (Py.bestB lt x xs) v H' → Q v H') : rBestD c.X.K best [v] H Q := by
  obtain ⟨h1, h2⟩ := allLike_ok hal
  obtain ⟨a, vs, rfl, h3, rl⟩ := hw.lst
  obtain ⟨d1, d2⟩ := RepL.dp _ _ 6 rl h1
  have e0 := hb x xs h1 h2
  have em := best_mem lt xs x
  have el : toPys (x :: xs) = toPy x :: xs.map toPy := by rw [toPys_map, List.map_cons]
  have hdp := depth_toPys (x :: xs) 6 h1
  rw [el] at d1 hdp
  refine ⟨a, vs, toPy x, xs.map toPy, rfl, .of h3, d1, ⟨fun y hy z hz => ?_, fun y hy => ?_⟩, ?_, by omega, fun i u e1 e2 => ?_⟩
  · obtain ⟨y, hy', rfl⟩ := List.mem_map.mp (show y ∈ (x :: xs).map toPy by simpa using hy)
    obtain ⟨z, hz', rfl⟩ := List.mem_map.mp (show z ∈ (x :: xs).map toPy by simpa using hz)
    exact like_toPy _ _ (h2 y hy' z hz')
  · obtain ⟨y, hy', rfl⟩ := List.mem_map.mp (show y ∈ (x :: xs).map toPy by simpa using hy)
    exact (like_ne (h2 y hy' y hy')).1
  · rw [e0]
    exact List.mem_map.mpr ⟨_, em, rfl⟩
  · obtain ⟨d, k1, k2⟩ := rl.getV e1
    rw [e0] at e2
    have e3 : ((x :: xs).map toPy)[i]? = some (toPy (Py.bestB lt x xs)) := e2
    rw [List.getElem?_map, k1] at e3
    have e4 : toPy d = toPy (Py.bestB lt x xs) := Option.some.inj e3
    have e5 := toPy_inj _ _ (h2 d (List.mem_of_getElem? k1) _ em) e4
    subst e5
    exact flat_out q k2 (like_ne (h2 _ em _ em)).2
theorem cs_min1 (hc : c.X.calm = true) (hu : c.X.A.units + 65 < cLine) : CallS c (.builtin "min") Py.min1D := by
  refine ⟨_, cr_minD hc hu, ?_⟩
  intro vs ds z H Z η ω Q w hv hg q
  unfold Py.min1D at hg
  split at hg <;> first | (cases hg; done) | skip
  obtain ⟨v, rfl, hw⟩ := hv.one
  split at hg
  case isFalse => cases hg
  case isTrue hal =>
    cases hg
    exact best_end (fun x xs h1 h2 => fold_best (C := fun y => y ∈ x :: xs) (lt := fun a b => Py.ltG b a) (ltp := fun a b => PySem.W.dataLt b a) (fun y z hy hz => lt_toPy z y 6 6 (h2 z hz y hy) (h1 z hz) (h1 y hy)) xs x (by simp) fun z hz => by simp [hz]) hw hal q
theorem cs_max1 (hc : c.X.calm = true) (hu : c.X.A.units + 65 < cLine) : CallS c (.builtin "max") Py.max1D := by
  refine ⟨_, cr_maxD hc hu, ?_⟩
  intro vs ds z H Z η ω Q w hv hg q
  unfold Py.max1D at hg
  split at hg <;> first | (cases hg; done) | skip
  obtain ⟨v, rfl, hw⟩ := hv.one
  split at hg
  case isFalse => cases hg
  case isTrue hal =>
    cases hg
    exact best_end (fun x xs h1 h2 => fold_best (C := fun y => y ∈ x :: xs) (lt := Py.ltG) (ltp := PySem.W.dataLt) (fun y z hy hz => lt_toPy y z 6 6 (h2 y hy z hz) (h1 y hy) (h1 z hz)) xs x (by simp) fun z hz => by simp [hz]) hw hal q
theorem repL_zip {H : Hp} {Z : Addr → Prop} {η : List Addr} : ∀ {vs : List V} {ds : List Py.D}, c.RepL H Z η vs ds → ∃ ps : List (V × Py.D), ps.map Prod.fst = vs ∧ ps.map Prod.snd = ds ∧ ∀ p ∈ ps, c.Rep H Z η p.1 p.2
  | _, _, .nil => ⟨[], rfl, rfl, fun _ h => by simp at h⟩
  | v :: vs, d :: ds, .cons r t => by
    obtain ⟨ps, h1, h2, h3⟩ := repL_zip t
    refine ⟨(v, d) :: ps, by simp [h1], by simp [h2], fun p hp => ?_⟩
    rcases List.mem_cons.mp hp with rfl | hp
    · exact r
    · exact h3 p hp
theorem repL_of {H : Hp} {Z : Addr → Prop} {η : List Addr} : ∀ {ps : List (V × Py.D)}, (∀ p ∈ ps, c.Rep H Z η p.1 p.2) → c.RepL H Z η (ps.map Prod.fst) (ps.map Prod.snd)
  | [], _ => .nil
  | p :: ps, h => .cons (h p (by simp)) (repL_of fun q hq => h q (by simp [hq]))
theorem cs_sortedN (hu : c.X.A.units + 65 < cLine) : CallS c (.builtin "sorted") Py.sortedND := by
  refine ⟨_, cr_sortN hu, ?_⟩
  intro vs ds z H Z η ω Q w hv hg q
  unfold Py.sortedND at hg
  split at hg <;> first | (cases hg; done) | skip
  obtain ⟨v, rfl, hw⟩ := hv.one
  split at hg
  case isFalse => cases hg
  case isTrue hal =>
    cases hg
    obtain ⟨hal, hs⟩ := Bool.and_eq_true_iff.mp hal
    obtain ⟨hs, hl⟩ := Bool.and_eq_true_iff.mp hs
    have hl := of_decide_eq_true hl
    obtain ⟨h1, h2⟩ := allLike_ok hal
    obtain ⟨a, vs, rfl, h3, rl⟩ := hw.lst
    obtain ⟨d1, d2⟩ := RepL.dp _ _ 6 rl h1
    obtain ⟨ps, rfl, rfl, hps⟩ := repL_zip rl
    rw [toPys_map, List.map_map] at d1
    have mem : ∀ p ∈ ps, p.2 ∈ ps.map Prod.snd := fun p hp => List.mem_map.mpr ⟨p, hp, rfl⟩
    refine ⟨a, ps, rfl, .of h3, d1, fun y hy z hz => ?_, ?_, ?_, fun p hp => ?_, fun p hp => ?_⟩
    · obtain ⟨y, hy', rfl⟩ := List.mem_map.mp hy
      obtain ⟨z, hz', rfl⟩ := List.mem_map.mp hz
      exact like_toPy _ _ (h2 _ (mem y hy') _ (mem z hz'))
    · rcases Bool.or_eq_true_iff.mp hs with hs | hs
      · right
        refine ⟨fun y hy => ?_, fun y r e => ?_⟩
        · obtain ⟨y, hy', rfl⟩ := List.mem_map.mp hy
          obtain ⟨xs, e⟩ : ∃ xs, y.2 = .tup xs := by
            have hm := mem y hy'
            revert hs hm
            generalize ps.map Prod.snd = L
            intro hs hm
            cases L with
            | nil => simp at hm
            | cons d r =>
              have hd : d = .tup [] ∧ r.all Py.isTp = true := by
                cases d <;> first | (cases hs; done) | skip
                rename_i xs
                cases xs with
                | nil => exact ⟨rfl, hs⟩
                | cons _ _ => cases hs
              rcases List.mem_cons.mp hm with z | z
              · exact ⟨[], by rw [z, hd.1]⟩
              · have := List.all_eq_true.mp hd.2 _ z
                unfold Py.isTp at this
                split at this
                · rename_i xs e; exact ⟨xs, e⟩
                · cases this
          rw [e]
          exact ⟨toPys xs, by simp [toPy]⟩
        · cases ps with
          | nil => cases e
          | cons p ps' =>
            simp only [List.map_cons, List.cons.injEq] at e
            rw [← e.1]
            have : p.2 = .tup [] := by
              have hs : Py.mixed (p.2 :: ps'.map Prod.snd) = true := hs
              cases hq : p.2 <;> rw [hq] at hs <;> first | (cases hs; done) | skip
              rename_i xs
              cases xs with
              | nil => rfl
              | cons _ _ => cases hs
            rw [this]
            simp [toPy, toPys]
      · left
        rcases Bool.or_eq_true_iff.mp hs with hs | hs
        · refine .inl fun y hy => ?_
          obtain ⟨y, hy', rfl⟩ := List.mem_map.mp hy
          have := List.all_eq_true.mp hs _ (mem y hy')
          unfold Py.full at this
          split at this
          · rename_i x r e
            rw [e]
            exact ⟨toPy x, toPys r, by simp [toPy, toPys]⟩
          · cases this
        · refine .inr fun y hy => ?_
          obtain ⟨y, hy', rfl⟩ := List.mem_map.mp hy
          have := List.all_eq_true.mp hs _ (mem y hy')
          unfold Py.atom at this
          split at this
          · rename_i e
            rw [e]
            exact ⟨by simp [toPy], fun _ z => by simp [toPy] at z⟩
          · rename_i e
            rw [e]
            exact ⟨by simp [toPy], fun _ z => by simp [toPy] at z⟩
          · cases this
    · rw [← lim_eq]; simpa using hl
    · have := depth_toPy p.2 6 (h1 _ (mem p hp))
      omega
    · have es : (ps.mergeSort (PySem.W.dataLe false fun p => toPy p.2)).map Prod.snd = (ps.map Prod.snd).mergeSort fun a b => !Py.ltG b a := by
        rw [List.map_mergeSort]
        intro x hx y hy
        show (!PySem.W.dataLt (toPy y.2) (toPy x.2)) = !Py.ltG y.2 x.2
        rw [lt_toPy _ _ 6 6 (h2 _ (mem y hy) _ (mem x hx)) (h1 _ (mem y hy)) (h1 _ (mem x hx))]
      rw [← es] at q
      exact q _ _ (.inl ⟨p, hp, .inl ⟨_, _, rfl, rfl, rfl, repL_of fun p hp => hps p ((List.mergeSort_perm _ _).mem_iff.mp hp)⟩⟩)
end
end PyS
end
section
namespace PyS
open PySem PySem.Spec PyProof.Rows L2
section
variable {c : Ct} {k ka kb : Kd} {σ : L2.St} {r : Py.Env} {H H1 H2 : Hp} {Z Z1 : Addr → Prop} {η η1 : List Addr} {ω ω1 : Py.Store} {D : Ends} {v : V} {d : Py.D}
/-! ### a, b = e, f -/
def pKs (ts : List (Bool × Nat)) : List Kd := ts.map fun t => if t.1 = true then .frs else .val
def setSt : L2.St → List (Bool × Nat) → List V → L2.St
  | σ, (_, i) :: ts, v :: vs => setSt (σ.set i (some v)) ts vs
  | σ, _, _ => σ
theorem par_end {r0 : Py.Env} {σ0 : L2.St} : ∀ {ts : List (Bool × Nat)} {vs : List V} {ds : List Py.D} {σ : L2.St} {r r' : Py.Env}, c.Env σ r H1 Z1 η1 ω1 → ResL c r0 σ0 H H1 Z1 η1 (pKs ts) vs ds → (frL (pKs ts) vs ds).Nodup →
    (∀ (j : Nat) es p, r[j]? = some (.o es) → σ[j]? = some (some (.ref p)) → V.ref p ∉ frL (pKs ts) vs ds) → (∀ p, V.ref p ∈ frL (pKs ts) vs ds → c.H0 p = none) → Py.setPar r ts ds = some r' → c.Env (setSt σ ts vs) r' H1 Z1 η1 ω1
  | [], vs, ds, σ, r, r', e, rl, nd, ap, h0, h => by
    cases ds with
    | cons _ _ => cases h
    | nil => cases h; exact e
  | (b, i) :: ts, vs, ds, σ, r, r', e, rl, nd, ap, h0, h => by
    cases ds with
    | nil => cases h
    | cons d ds =>
    cases vs with
    | nil => exact rl.elim
    | cons v vs =>
    obtain ⟨s, h1, h2⟩ := Option.bind_eq_some_iff.mp h
    cases b with
    | false =>
      cases h1
      have q : ResR c .val r0 σ0 H H1 Z1 η1 v d ∧ ResL c r0 σ0 H H1 Z1 η1 (pKs ts) vs ds := rl
      have fe : frL (pKs ((false, i) :: ts)) (v :: vs) (d :: ds) = frL (pKs ts) vs ds := rfl
      rw [fe] at nd ap h0
      show c.Env (setSt (σ.set i (some v)) ts vs) r' H1 Z1 η1 ω1
      refine par_end (Ct.Env.setV e q.1) q.2 nd (fun j es p hj hp => ?_) h0 h2
      rcases get_set hj with ⟨rfl, hl, e1⟩ | ⟨hn, hj⟩
      · cases e1
      · rw [List.getElem?_set_ne (Ne.symm hn)] at hp
        exact ap j es p hj hp
    | true =>
      have q : ResR c .frs r0 σ0 H H1 Z1 η1 v d ∧ ResL c r0 σ0 H H1 Z1 η1 (pKs ts) vs ds := rl
      cases d with
      | lst xs =>
        cases h1
        rcases q.1 with ⟨p, us, ds', e1, e2, n0, k1, k2, k3, k4⟩ | ⟨_, q2⟩
        case inr => exact absurd rfl (q2 xs)
        cases e1
        cases e2
        have fe : frL (pKs ((true, i) :: ts)) (V.ref p :: vs) (Py.D.lst xs :: ds) = V.ref p :: frL (pKs ts) vs ds := rfl
        rw [fe] at nd ap h0
        have nd' := List.nodup_cons.mp nd
        have apart : ∀ (j : Nat) es, j ≠ i → r[j]? = some (.o es) → σ[j]? ≠ some (some (.ref p)) := fun j es _ hj hp => ap j es p hj hp (by simp)
        show c.Env (setSt (σ.set i (some (.ref p))) ts vs) r' H1 Z1 η1 ω1
        refine par_end (Ct.Env.setO e ⟨us, k1, k2, k3, k4, h0 p (by simp)⟩ apart) q.2 nd'.2 (fun j es p' hj hp => ?_) (fun p' hm => h0 p' (by simp [hm])) h2
        rcases get_set hj with ⟨rfl, hl, e1⟩ | ⟨hn, hj⟩
        · rw [List.getElem?_set_self (by rw [← e.sl.len]; exact hl)] at hp
          cases hp
          exact nd'.1
        · rw [List.getElem?_set_ne (Ne.symm hn)] at hp
          exact fun hm => ap j es p' hj hp (by simp [hm])
      | _ => cases h1
theorem Ct.H0none (e : c.Env σ r H Z η ω) {p : Addr} (h : H p = none) : c.H0 p = none := by
  cases q : c.H0 p with
  | none => rfl
  | some o => exact absurd h (e.s0.there p (by rw [q]; simp))
theorem tS.args {ms : Py.Env → Py.M (List Py.D)} {f : Py.Env → List Py.D → Py.SM} {ks : List Kd} (h : tS c (fun r => Py.bndE r (ms r) (f r)) D σ H) :
    tA c ks ms σ H (fun vs H1 => ∃ Z η Z1 η1 ω0 ω1 r ds, c.Env σ r H Z η ω0 ∧ c.Env σ r H1 Z1 η1 ω1 ∧ ResL c r σ H H1 Z1 η1 ks vs ds ∧ (frL ks vs ds).Nodup ∧ postS c H1 Z1 η1 D (f r ds ω1)) := by
  obtain ⟨Z, η, ω, r, e, h⟩ := h
  refine ⟨Z, η, ω, r, e, ?_⟩
  unfold Py.bndE at h
  cases hm : ms r ω with
  | stuck => simp only [hm] at h; exact h
  | exc x ω' =>
    simp only [hm] at h
    exact fun H' Z' η' a n ha => h σ H' Z' η' a (e.step n.s n.w) (n.s.grow e.w) ha
  | ok ds ω' =>
    simp only [hm] at h
    intro vs H1 Z1 η1 n q nd
    exact ⟨Z, η, Z1, η1, ω, ω', r, ds, e, e.step n.s n.w, q, nd, h.grow (n.s.grow e.w)⟩
theorem par_in {ts : List (Bool × Nat)} {ms : Py.Env → Py.M (List Py.D)} (h : tS c (fun r => Py.bndE r (Py.bnd (ms r) fun ds => Py.lif (Py.setPar r ts ds)) Py.nextS) D σ H) : tA c (pKs ts) ms σ H (fun vs H1 => vs.length = ts.length ∧ D.nx (setSt σ ts vs) H1) := by
  have h : tS c (fun r => Py.bndE r (ms r) fun ds => Py.bndE r (Py.lif (Py.setPar r ts ds)) Py.nextS) D σ H := by
    simpa only [Py.bndE_bnd] using h
  refine tA.mono h.args fun vs H1 ⟨Z, η, Z1, η1, ω0, ω1, r, ds, e0, e, rl, nd, q⟩ => ?_
  obtain ⟨r', h1, q⟩ := q.lif
  refine ⟨by rw [(ResL.length rl).1]; simp [pKs], q _ H1 Z1 η1 (par_end e rl nd (fun j es p hj hp hm => ?_) (fun p hm => ?_) h1) .refl⟩
  · obtain ⟨p', e1, e2⟩ := frL_none rl _ hm
    cases e1
    exact Ct.Env.ownNe e0 e2 j es hj hp
  · obtain ⟨p', e1, e2⟩ := frL_none rl _ hm
    cases e1
    exact Ct.H0none e0 e2
theorem js_par2 {b1 b2 : Bool} {i j : Nat} {x y : Str} {e f : Expr} {px py pt pos : Pos} {kt k2 pt2} {ms : Py.Env → Py.M (List Py.D)} (hc : c.X.calm = true) (hN : c.X.N.Nodup) (hi : c.X.N[i]? = some x) (hj : c.X.N[j]? = some y) (hij : i ≠ j)
    (hx : c.X.env.scope.names.lookup x = some .local) (hy : c.X.env.scope.names.lookup y = some .local) (ha : JA c (pKs [(b1, i), (b2, j)]) [e, f] ms)
    (hw : swappedStores [.Tuple [.Name x px, .Name y py] kt pt] (.Tuple [e, f] k2 pt2) c.X.env = pure (some [x, y])) :
    JS c (.Assign [.Tuple [.Name x px, .Name y py] kt pt] (.Tuple [e, f] k2 pt2) pos) (fun r => Py.bndE r (Py.bnd (ms r) fun ds => Py.lif (Py.setPar r [(b1, i), (b2, j)] ds)) Py.nextS) := by
  refine PS.imp (ps_par hc hN hi hj hij hx hy ha hw rfl) fun D σ H h => tA.mono (par_in h) fun vs H1 ⟨hl, q⟩ => ?_
  match vs, hl with
  | [v, w], _ => exact ⟨v, w, rfl, q⟩
theorem js_par3 {b1 b2 b3 : Bool} {i j l : Nat} {x y z : Str} {e f g : Expr} {px py pz pt pos : Pos} {kt k2 pt2} {ms : Py.Env → Py.M (List Py.D)} (hc : c.X.calm = true) (hN : c.X.N.Nodup) (hi : c.X.N[i]? = some x) (hj : c.X.N[j]? = some y) (hl : c.X.N[l]? = some z) (hij : i ≠ j) (hil : i ≠ l) (hjl : j ≠ l)
    (hx : c.X.env.scope.names.lookup x = some .local) (hy : c.X.env.scope.names.lookup y = some .local) (hz : c.X.env.scope.names.lookup z = some .local) (ha : JA c (pKs [(b1, i), (b2, j), (b3, l)]) [e, f, g] ms)
    (hw : swappedStores [.Tuple [.Name x px, .Name y py, .Name z pz] kt pt] (.Tuple [e, f, g] k2 pt2) c.X.env = pure (some [x, y, z])) :
    JS c (.Assign [.Tuple [.Name x px, .Name y py, .Name z pz] kt pt] (.Tuple [e, f, g] k2 pt2) pos) (fun r => Py.bndE r (Py.bnd (ms r) fun ds => Py.lif (Py.setPar r [(b1, i), (b2, j), (b3, l)] ds)) Py.nextS) := by
  refine PS.imp (ps_par3 hc hN hi hj hl hij hil hjl hx hy hz ha hw rfl) fun D σ H h => tA.mono (par_in h) fun vs H1 ⟨hl, q⟩ => ?_
  match vs, hl with
  | [u, v, w], _ => exact ⟨u, v, w, rfl, q⟩
/-- .. not stored swapped: a tuple, then unpacked; values alone -/
theorem setPar_vals : ∀ (is : List Nat) (r : Py.Env) (ds : List Py.D), Py.setPar r (is.map fun i => (false, i)) ds = Py.setAll r is ds
  | [], r, [] => rfl
  | [], r, _ :: _ => rfl
  | _ :: _, r, [] => rfl
  | i :: is, r, d :: ds => by
    show (Py.slotOf false d).bind (fun s => Py.setPar (r.set i s) (is.map fun i => (false, i)) ds) = Py.setAll (r.set i (.v d)) is ds
    simp only [Py.slotOf, Bool.false_eq_true, if_false, Option.bind_some]
    exact setPar_vals is _ ds
theorem js_parN {is : List Nat} {es vs : List Expr} {kk k2 : Nat} {tpos tpos2 pos : Pos} {ms : Py.Env → Py.M (List Py.D)} {n : Nat} (hc : c.X.calm = true) (ha : JA c (vals n) vs ms) (hn1 : n ≤ 1000) (hg : PGs c.X es (gNs is)) (hn : (assignEach es c.X.env).length = is.length) (hst : (assignEach es c.X.env).findIdx? (·.1) = none)
    (hw : swappedStores [.Tuple es kk tpos] (.Tuple vs k2 tpos2) c.X.env = pure none) :
    JS c (.Assign [.Tuple es kk tpos] (.Tuple vs k2 tpos2) pos) (fun r => Py.bndE r (Py.bnd (ms r) fun ds => Py.lif (Py.setPar r (is.map fun i => (false, i)) ds)) Py.nextS) := by
  have h := js_unp hc (je_tup ha hn1 (x1 := k2) (pos := tpos2)).je hg hn hst rfl hw (pos := pos)
  have e : (fun r : Py.Env => Py.bndE r (Py.bnd (ms r) fun ds => Py.lif (Py.setPar r (is.map fun i => (false, i)) ds)) Py.nextS) = (fun r => Py.bndE r (Py.bnd (Py.bnd (ms r) fun xs => Py.ret (Py.D.tup xs)) fun d => Py.lif ((Py.unpD d).bind fun ds => Py.setAll r is ds)) Py.nextS) := by
    funext r
    simp only [Py.bnd_bnd, Py.bnd_ret, setPar_vals, Py.lif_some, Py.unpD, Option.bind_some]
  rw [e]
  exact h
/-- .. new lists among them -/
theorem gNs_set {H : Hp} {Q : L2.St → Hp → Prop} : ∀ {ts : List (Bool × Nat)} {vs : List V} {σ : L2.St}, vs.length = ts.length → Q (setSt σ ts vs) H → gNs (ts.map (·.2)) vs σ H Q
  | [], [], σ, _, q => ⟨rfl, q⟩
  | (b, i) :: ts, v :: vs, σ, h, q => ⟨_, _, rfl, gNs_set (by simpa using h) q⟩
  | [], _ :: _, _, h, _ => by simp at h
  | _ :: _, [], _, h, _ => by simp at h
theorem par_inT {ts : List (Bool × Nat)} {ms : Py.Env → Py.M (List Py.D)} (h : tS c (fun r => Py.bndE r (Py.bnd (ms r) fun ds => Py.lif (Py.setPar r ts ds)) Py.nextS) D σ H) : tA c (pKs ts) ms σ H (fun vs H1 => vs.length = ts.length ∧ ∀ T, H1 T = none → D.nx (setSt σ ts vs) (upd H1 T (.tup vs))) := by
  have h : tS c (fun r => Py.bndE r (ms r) fun ds => Py.bndE r (Py.lif (Py.setPar r ts ds)) Py.nextS) D σ H := by
    simpa only [Py.bndE_bnd] using h
  refine tA.mono h.args fun vs H1 ⟨Z, η, Z1, η1, ω0, ω1, r, ds, e0, e, rl, nd, q⟩ => ?_
  obtain ⟨r', h1, q⟩ := q.lif
  refine ⟨by rw [(ResL.length rl).1]; simp [pKs], fun T hT => ?_⟩
  have st : Step H1 Z1 η1 (upd H1 T (.tup vs)) Z1 η1 := .new hT
  have e' := e.step st (Ct.WI.new e.w hT)
  refine q _ (upd H1 T (.tup vs)) Z1 η1 (par_end e' (ResL.step e.w st rl) nd (fun j es p hj hp hm => ?_) (fun p hm => ?_) h1) (st.grow e.w)
  · obtain ⟨p', e1, e2⟩ := frL_none rl _ hm
    cases e1
    exact Ct.Env.ownNe e0 e2 j es hj hp
  · obtain ⟨p', e1, e2⟩ := frL_none rl _ hm
    cases e1
    exact Ct.H0none e0 e2
theorem js_parO {ts : List (Bool × Nat)} {es vs : List Expr} {kk k2 : Nat} {tpos tpos2 pos : Pos} {ms : Py.Env → Py.M (List Py.D)} (hc : c.X.calm = true) (ha : JA c (pKs ts) vs ms) (hn1 : ts.length ≤ 1000) (hg : PGs c.X es (gNs (ts.map (·.2)))) (hn : (assignEach es c.X.env).length = (ts.map (·.2)).length) (hst : (assignEach es c.X.env).findIdx? (·.1) = none)
    (hw : swappedStores [.Tuple es kk tpos] (.Tuple vs k2 tpos2) c.X.env = pure none) :
    JS c (.Assign [.Tuple es kk tpos] (.Tuple vs k2 tpos2) pos) (fun r => Py.bndE r (Py.bnd (ms r) fun ds => Py.lif (Py.setPar r ts ds)) Py.nextS) := by
  refine PS.imp (ps_asg (pe_tup (x1 := k2) (pos := tpos2) ha) (pg_any hc hg hn hst) rfl hw (by rfl)) fun D σ H h => ?_
  refine tA.mono (par_inT h) fun us H1 ⟨hl, q⟩ => ⟨by rw [hl]; show ts.length ≤ 16777216; omega, fun T hT => .inl ⟨T, us, rfl, .of upd_same, by rw [hl, List.length_map], gNs_set hl (q T hT)⟩⟩
end
end PyS
end
section
namespace PyS
open PySem PySem.Spec PyProof.Rows L2
section
variable {c : Ct} {k ka kb : Kd} {σ : L2.St} {r : Py.Env} {H H1 H2 : Hp} {Z Z1 : Addr → Prop} {η η1 : List Addr} {ω ω1 : Py.Store} {D : Ends} {v : V} {d : Py.D}
/-! ### try .. except X as e -/
abbrev Ct.hot (c : Ct) (X : Cx) (xa : Option (Nat × Addr × Nat)) : Ct := { c with X := X, xa := xa, W := fun _ _ _ _ => False }
abbrev Ct.trd (c : Ct) (X : Cx) (W : WX) : Ct := { c with X := X, W := W }
theorem PSs.ex {α : Type} {X : Cx} {st : List Stmt} {P : α → Prop} {t : α → TS} (h : ∀ a, P a → PSs X st (t a)) : PSs X st (fun D σ H => ∃ a, P a ∧ t a D σ H) := ⟨fun pins s σ H D I ⟨a, p, q⟩ => (h a p).run pins s σ H D I q⟩
theorem env_in {i n : Nat} {a : Addr} {X : Cx} (hX : X.K = c.X.K) (hxa : c.xa = none) (e : c.Env σ r H Z η ω) : (c.hot X (some (i, a, n))).Env (σ.set i (some (.ref a))) (r.set i (.x n)) H Z η ω := by
  have e0 := Ct.Env.setN e (i := i) (o := some (.ref a))
  unfold Ct.Env at *
  rw [show (c.hot X (some (i, a, n))).X.K = c.X.K from hX]
  refine ⟨e.w, e.s0, ⟨by simpa using e.sl.len, fun j d h => ?_, fun j ds h => ?_, fun j l ds es p h1 h2 h3 h4 => ?_, fun j m h => ?_⟩⟩
  · rcases get_set h with ⟨rfl, hl, e1⟩ | ⟨hn, h⟩
    · cases e1
    · exact e0.sl.val j d (by rw [List.getElem?_set_ne (Ne.symm hn)]; exact h)
  · rcases get_set h with ⟨rfl, hl, e1⟩ | ⟨hn, h⟩
    · cases e1
    · exact e0.sl.own j ds (by rw [List.getElem?_set_ne (Ne.symm hn)]; exact h)
  · rcases get_set h1 with ⟨rfl, hl, e1⟩ | ⟨hn, h1⟩
    · cases e1
    · rcases get_set h2 with ⟨rfl, hl, e1⟩ | ⟨hn2, h2⟩
      · cases e1
      · exact e0.sl.apart j l ds es p (by rw [List.getElem?_set_ne (Ne.symm hn)]; exact h1) (by rw [List.getElem?_set_ne (Ne.symm hn2)]; exact h2) h3 h4
  · rcases get_set h with ⟨rfl, hl, e1⟩ | ⟨hn, h⟩
    · cases e1
      exact ⟨a, rfl, by rw [List.getElem?_set_self (by rw [← e.sl.len]; exact hl)]⟩
    · obtain ⟨b, h1, _⟩ := e.sl.xs j m h
      rw [hxa] at h1
      cases h1
theorem env_out {i n : Nat} {a : Addr} {X : Cx} (hX : X.K = c.X.K) (e : (c.hot X (some (i, a, n))).Env σ r H Z η ω) : c.Env (σ.set i none) (r.set i .none) H Z η ω := by
  have e0 := Ct.Env.setN e (i := i) (o := none)
  unfold Ct.Env at *
  rw [show (c.hot X (some (i, a, n))).X.K = c.X.K from hX] at e0 e
  refine ⟨e0.w, e0.s0, ⟨e0.sl.len, e0.sl.val, e0.sl.own, e0.sl.apart, fun j m h => ?_⟩⟩
  rcases get_set h with ⟨rfl, hl, e1⟩ | ⟨hn, h⟩
  · cases e1
  · obtain ⟨b, h1, _⟩ := e.sl.xs j m h
    cases h1
    exact absurd rfl hn
def tHot (c : Ct) (i : Nat) (ms : Py.Env → Py.SM) (a : Addr) (cls : Value) (d : Option Addr) : TS := fun D σ H => ∃ n : Nat × Addr, (c.eA n.1 = some n.2 ∧ cls = .ref n.2 ∧ d = none) ∧ tS (c.hot c.X (some (i, a, n.1))) ms D σ H
theorem js_try {i : Nat} {x nm : Str} {C : Addr} {np pos pos' : Pos} {body suite : List Stmt} {b₀ : Stmt} {mb ms : Py.Env → Py.SM} (hs : c.X.stack = c.X.env :: c.X.outer) (hf : c.X.env.frame = some c.X.env.locals) (hN : c.X.N.Nodup) (hi : c.X.N[i]? = some nm)
    (hln : c.X.env.kindOf nm = some .local) (hc : Names c.X x (.ref C)) (tk : Takes c.X c.W) (hxa : c.xa = none) (hex : ∀ n a, c.eA n = some a → PySem.W.exmOne c.X.K (.ref a) (.ref C) = some true)
    (hb : ∀ (W : WX) (pn : List (Addr × Obj)) (xe : Value → Shared → Prop), Takes (c.X.tr pn xe) W → PassesOwn (model c.X.prog c.X.w) c.X.A c.X.env xe → JSs (c.trd (c.X.tr pn xe) W) body mb)
    (hsu : ∀ (a : Addr) (oe : Obj) (n : Nat) (C1 : Addr) (pn : List (Addr × Obj)), c.eA n = some C1 → Zc (.ref C1) none oe → (∃ vs, oe.data = .fields vs) → JSs (c.hot (c.X.suite a ((a, oe) :: pn)) (some (i, a, n))) (b₀ :: suite) ms) :
    JS c (.Try body [.ExceptHandler (some (.Name x np)) (some nm) (b₀ :: suite) pos'] [] [] pos) (fun r => Py.catchS mb (fun n r' => Py.seqS (ms (r'.set i (.x n))) (fun r => Py.nextS (r.set i .none))) r) := by
  refine PS.imp (ps_try_as (tb := fun W => tS (c.trd c.X W) mb) (ts := tHot c i ms) hs hf hN hi hln hc tk (fun W pn xe h1 h2 => hb W pn xe h1 h2) (fun a oe cls d pn hz hd => ⟨fun pins s σ H D I ⟨n, ⟨h1, h2, h3⟩, q⟩ => ?_⟩)) fun D σ H ⟨Z, η, ω, r, e, h⟩ => ⟨Z, η, ω, r, e, ?_⟩
  · subst h2 h3
    exact (hsu a oe n.1 n.2 pn h1 hz hd).run pins s σ H D I q
  · replace h : postS c H Z η D (Py.catchS mb (fun n r' => Py.seqS (ms (r'.set i (.x n))) (fun r => Py.nextS (r.set i .none))) r ω) := h
    unfold Py.catchS at h
    cases hm : mb r ω with
    | stuck => rw [hm] at h; exact h
    | nx r' ω' => rw [hm] at h; exact h
    | rt d ω' => rw [hm] at h; exact h
    | ex n r' ω' =>
      rw [hm] at h
      intro σ' H' Z' η' a e' g ha
      refine ⟨true, hex n a ha, fun _ a0 h0 => ⟨(n, a), ⟨ha, rfl, rfl⟩, Z', η', ω', r'.set i (.x n), env_in rfl hxa e', ?_⟩, fun z => by cases z⟩
      replace h : postS c H' Z' η' D (Py.calmS (Py.seqS (ms (r'.set i (.x n))) (fun r => Py.nextS (r.set i .none))) ω') := postS.grow h g
      unfold Py.calmS Py.seqS at h
      cases hm2 : ms (r'.set i (.x n)) ω' with
      | stuck => rw [hm2] at h; exact h.elim
      | nx r2 ω2 => rw [hm2] at h; exact fun σ2 H2 Z2 η2 e2 g2 => h _ H2 Z2 η2 (env_out rfl e2) g2
      | rt d ω2 => rw [hm2] at h; exact h
      | ex n2 r2 ω2 => rw [hm2] at h; exact h.elim
/-! ### a def at its place, as what it may be called for -/
structure FnAt (c : Ct) (φ : Nat → List Py.D → Py.M Py.D) (i : Nat) (a : Addr) (np : Nat) : Prop where
  ok : ∃ (j : Nat) (fd : FuncData) (ps : List Str), FnOk c.X.prog c.X.w c.X.K c.X.mg c.X.base (L2.CX c.X.prog c.X.w) j a fd ps (spF c.X.K c.fA c.eA np (φ i)) ∧ Room j c.X.A ∧ Binds c.X.K fd ps []
  kp : PySem.W.keepIn c.X.K (.ref a) = true
theorem fnD_some {d : Py.D} {i : Nat} (h : Py.fnD d = some i) : d = .fn i := by
  cases d <;> first | (cases h; rfl) | cases h
theorem jb_calv {fe e : Expr} {es : List Expr} {pos : Pos} {n : Nat} {mf : Py.Env → Py.M Py.D} {ms : Py.Env → Py.M (List Py.D)} {φ : Nat → List Py.D → Py.M Py.D} (hf : JE c k fe mf)
    (F : ∀ i a, c.fA.f i = some a → ∃ np, FnAt c φ i a np ∧ ∀ ds ω, ds.length ≠ np → φ i ds ω = .stuck) (tk : Takes c.X c.W) (ha : JA c (vals n) (e :: es) ms)
    (ht : eval (.Call fe (e :: es) [] pos) c.X.env = (do callWith pos (← eval fe c.X.env) [] (backTo pos (starEach (e :: es) c.X.env)) (backToKw pos (keywordEach [] c.X.env))))
    (he : starEach (e :: es) c.X.env = (false, eval e c.X.env) :: starEach es c.X.env) (hpl : (backTo pos (starEach es c.X.env)).any (·.1) = false) :
    JB c .val (.Call fe (e :: es) [] pos) (fun r => Py.bnd (mf r) fun x => Py.bnd (Py.lif (Py.fnD x)) fun f => Py.bnd (ms r) fun xs => φ f xs) := by
  refine .plain (.inl rfl) ⟨fun pins s σ H Q I h => ?_⟩ (fun _ => rfl)
  refine Call_ (thn (hf.run pins s σ H _ I h.bnd) fun u s1 ⟨y, H1, I1, ry, Z, η, Z1, η1, ω1, r, d, en, st, rd, q⟩ => ?_) ht
  replace q : post c .val σ r H Z η Q (Py.bnd (Py.lif (Py.fnD d)) (fun f => Py.bnd (ms r) fun xs => φ f xs) ω1) := q
  cases hd : Py.fnD d with
  | none => rw [hd] at q; exact q.elim
  | some i =>
    rw [hd] at q
    obtain rfl := fnD_some hd
    replace q : post c .val σ r H1 Z1 η1 Q (Py.bnd (ms r) (fun xs => φ i xs) ω1) := post.rebase q st
    have vd := rd.view en
    cases vd with
    | of rp =>
      cases rp with
      | fn hfa =>
        rename_i a
        obtain ⟨np, ⟨⟨j, fd, ps, ok, hr, hb⟩, kp⟩, hst⟩ := F i _ hfa
        cases ry
        have t1 : tA c (vals n) ms σ H1 (fun vs H1 => spF c.X.K c.fA c.eA np (φ i) vs H1 Q (WE c.W σ)) := by
          have t0 : tE c .val (fun r => Py.bnd (ms r) fun xs => φ i xs) σ H1 Q := ⟨Z1, η1, ω1, r, en, q⟩
          refine tA.mono t0.args fun vs H2 ⟨Z, η, Z2, η2, ω2, r, ds, ω0, hm, e, s, rl, _, q⟩ => ?_
          have hl : ds.length = np := by
            apply Classical.byContradiction
            intro hne
            rw [hst ds ω2 hne] at q
            exact q
          refine ⟨by rw [← hl, (ResL.length rl).1, (ResL.length rl).2], Z2, η2, ω2, ds, e.w, rl.rep, ?_⟩
          cases hmm : φ i ds ω2 with
          | stuck => rw [hmm] at q; exact q
          | exc x ω' => rw [hmm] at q; exact fun H' Z' η' a st w ha => q H' Z' η' a ⟨s.trans st, w⟩ ha
          | ok d ω' => rw [hmm] at q; exact fun v H' Z' η' st w r => q v H' Z' η' ⟨s.trans st, w⟩ r
        exact PySem.W.callWith_K (h₀ := c.X.base) I1.ok.mod.kin kp (thn (ha.run pos pins s1 σ H1 _ I1 t1) fun us s2 ⟨vs, H2, I2, r, q⟩ => ⟨I2.kIn, run_fnS ok hr hb (passAt tk σ) I2 r q⟩) he hpl
end
end PyS
end
section
namespace PyS
open PySem PySem.Spec PyProof.Rows L2
section
variable {c : Ct} {k ka kb : Kd} {σ : L2.St} {r : Py.Env} {H H1 H2 : Hp} {Z Z1 : Addr → Prop} {η η1 : List Addr} {ω ω1 : Py.Store} {D : Ends} {v : V} {d : Py.D}
/-- y = x.pop()[k], k written -/
theorem js_popS {i j : Nat} {kk : Int} {x y : Str} {jj : Nat} {p1 py pk apos cpos spos pos : Pos} (hNd : c.X.N.Nodup) (hN : c.X.N[i]? = some x) (hv : Vis c.X.env.scope x) (hd : (x == ("__debug__" : Str)) = false) (hcd : (x == ("__classdict__" : Str)) = false)
    (hj : c.X.N[j]? = some y) (hy : Loc c.X.env.scope y) (hf : c.X.fn y = true ∨ c.X.env.scope.names.lookup y = some .local) (hline : (apos.endLine == cpos.line) = true) :
    JS c (.Assign [.Name y py] (.Subscript (.Call (.Attribute (.Name x p1) "pop" apos) [] [] cpos) (.Constant (.int kk) jj pk) spos) pos) (fun r => Py.bndE r (Py.lif ((r.get i).own.bind fun xs => xs.getLast?.bind fun d => (Py.subD d (.int kk)).map fun e => (r.set i (.o xs.dropLast)).set j (.v e))) Py.nextS) := by
  refine PS.imp (ps_set hNd hj hy (pe_ix ix_seq (pe_bm0 PySem.F.plainAttrs_list PySem.F.slot_list_pop PySem.F.type_list_pop mt_pop (pe_var hN hv hd hcd) (by rfl) hline) pe_int (fun _ _ => rfl)) rfl hf) fun D σ H ⟨Z, η, ω, r, en, h⟩ => ?_
  obtain ⟨r', h1, h⟩ := h.lif
  obtain ⟨ds, h2, h3⟩ := Option.bind_eq_some_iff.mp h1
  obtain ⟨d, h4, h5⟩ := Option.bind_eq_some_iff.mp h3
  obtain ⟨e, h6, rfl⟩ := Option.map_eq_some_iff.mp h5
  obtain ⟨p, k2, vs, k3, rl, nz, nη, h0⟩ := en.sl.own i ds (get_o h2)
  obtain ⟨v, k4, k5⟩ := rl.last h4
  obtain ⟨e2, g2⟩ := own_write en (get_o h2) k2 k3 rl.dropLast
  refine ⟨.ref p, k2, .inl ⟨rfl, vs, .of k3⟩, p, vs, v, rfl, rfl, k3, k4, ?_⟩
  have kw := k5.write (o := .lst vs.dropLast) k3 nz
  have fin : ∀ {u : V}, c.Rep (upd H p (.lst vs.dropLast)) Z η u e → D.nx (σ.set j (some u)) (upd H p (.lst vs.dropLast)) := fun {u} ru => h _ _ Z η (Ct.Env.setV e2 ru) g2
  cases d <;> (try (simp [Py.subD] at h6; done))
  · -- a text
    rename_i cs
    simp only [Py.subD] at h6
    split at h6
    case isFalse => cases h6
    case isTrue hl =>
      cases kw with
      | str _ hc =>
        obtain ⟨ch, q0, rfl⟩ := Option.map_eq_some_iff.mp h6
        obtain ⟨l, q2, q3⟩ := Option.bind_eq_some_iff.mp q0
        refine .inr (.inr ⟨_, _, ch, rfl, rfl, by rw [len_tx, ← lim_eq]; exact hl, ?_, fin (.str [ch] (chars_ok hc (List.mem_of_getElem? q3)))⟩)
        unfold atI
        rw [← ixN_eq, q2]
        exact q3
  · rename_i xs
    cases kw with
    | tup e1 rl =>
      obtain ⟨v, h2, h3⟩ := atI_rep rl h6
      exact .inr (.inl ⟨_, _, _, v, rfl, rfl, .of e1, h2, fin h3⟩)
  · rename_i xs
    cases kw with
    | lst z e1 rl =>
      obtain ⟨v, h2, h3⟩ := atI_rep rl h6
      exact .inl ⟨_, _, _, v, rfl, rfl, .of e1, h2, fin h3⟩
  · rename_i xs
    cases kw with
    | scr hh rl =>
      obtain ⟨v, h2, h3⟩ := atI_rep rl h6
      refine .inl ⟨_, _, _, v, rfl, rfl, ?_, h2, fin h3⟩
      rcases hh with ⟨_, hh⟩ | hh
      · exact .inl hh
      · exact .inr hh
/-- x[k] = e, x a list of one's own -/
theorem js_setL {i : Nat} {kk : Int} {x : Str} {e ie : Expr} {p1 sp pos : Pos} {m : Py.Env → Py.M Py.D} (hN : c.X.N[i]? = some x) (hv : Vis c.X.env.scope x) (hd : (x == ("__debug__" : Str)) = false) (hcd : (x == ("__classdict__" : Str)) = false)
    (hi : PE c.X ie (fun _ H Q => Q (.int kk) H)) (he : JE c .val e m)
    (ha : ∀ v, assign (.Subscript (.Name x p1) ie sp) c.X.env v = (do
      let ov ← holding [v] (eval (.Name x p1) c.X.env)
      let iv ← holding [v, ov] (eval ie c.X.env)
      standAt sp
      holding [v, ov, iv] (setItem ov iv v)
      release [v, ov, iv] [])) (hs : swapsWithSole [.Subscript (.Name x p1) ie sp] e pos.line c.X.env = pure false) (hw : swappedStores [.Subscript (.Name x p1) ie sp] e c.X.env = pure none) :
    JS c (.Assign [.Subscript (.Name x p1) ie sp] e pos) (fun r => Py.bndE r (Py.bnd (m r) fun d => Py.lif ((r.get i).own.bind fun xs => (Py.ixN xs.length kk).map fun j => r.set i (.o (xs.set j d)))) Py.nextS) := by
  refine PS.imp (ps_asg he (pg_sub (pe_var hN hv hd hcd) hi set_list ha) hs hw (by rfl)) fun D σ H h => ?_
  have h : tS c (fun r => Py.bndE r (m r) fun d => Py.bndE r (Py.lif ((r.get i).own.bind fun xs => (Py.ixN xs.length kk).map fun j => r.set i (.o (xs.set j d)))) Py.nextS) D σ H := by
    simpa only [Py.bndE_bnd] using h
  refine tE.mono h.bndE fun v H1 ⟨Z, η, Z1, η1, ω0, ω1, r, d, e0, en, n, q, h⟩ => ?_
  obtain ⟨r', h1, h⟩ := h.lif
  obtain ⟨ds, h2, h3⟩ := Option.bind_eq_some_iff.mp h1
  obtain ⟨j, h4, rfl⟩ := Option.map_eq_some_iff.mp h3
  obtain ⟨p, k2, vs, k3, rl, nz, nη, h0⟩ := en.sl.own i ds (get_o h2)
  obtain ⟨e2, g2⟩ := own_write en (get_o h2) k2 k3 (rl.set (show c.Rep H1 Z1 η1 v d from q) j)
  exact ⟨.ref p, k2, p, vs, kk, j, rfl, rfl, k3, by rw [rl.length]; exact h4, h _ _ Z1 η1 e2 g2⟩
theorem pe_negC {X : Cx} {k : Int} {j : Nat} {p q : Pos} : PE X (.UnaryOp .USub (.Constant (.int k) j p) q) (fun _ H Q => Q (.int (-k)) H) :=
  PE.imp (pe_un un_neg pe_int) fun σ H Q h => ⟨_, rfl, h⟩
/-! ### xs[::-1] -/
theorem jb_rev {a : Expr} {kk : Nat} {p1 p2 p3 pos : Pos} {m : Py.Env → Py.M Py.D} (ha : JE c ka a m) : JB c .frs (.Subscript a (.Slice none none (some (.UnaryOp .USub (.Constant (.int 1) kk p1) p2)) p3) pos) (fun r => Py.bnd (m r) fun x => Py.lif (Py.revD x)) := by
  refine .plain (.inr rfl) (PE.imp (pe_revL ha) fun σ H Q h => tE.mono h.bnd fun x H1 hx => ?_) (fun _ => rfl)
  obtain ⟨Z, η, Z1, η1, ω1, r, d, y, en, s, vd, hg, q⟩ := hx.pure
  cases d <;> (try (simp [Py.revD] at hg; done))
  simp only [Py.revD, Option.some.injEq] at hg
  subst hg
  obtain ⟨a, vs, rfl, h1, rl⟩ := vd.lst
  exact ⟨a, vs, rfl, .of h1, fun p hp => OutS.fin en s q _ _ (.inl ⟨p, hp, .inl ⟨_, _, rfl, rfl, rfl, rl.reverse⟩⟩)⟩
end
end PyS
end
section
/-! lists and instances of the store -/
namespace PyS
open PySem PySem.Spec PyProof.Rows L2
section
variable {K : PySem.W.Frag} {fA : Ad} {H : Hp} {Z : Addr → Prop} {η : List Addr} {p : Addr} {o : HO}
mutual
theorem Rep.writeG (hp : ∀ xs, H p ≠ some (.tup xs)) (nz : ¬ Z p) : ∀ {v : V} {d : Py.D}, Rep K fA H Z η v d → Rep K fA (upd H p o) Z η v d
  | _, _, .non => .non
  | _, _, .bl b => .bl b
  | _, _, .int i => .int i
  | _, _, .str cs h => .str cs h
  | _, _, .tup h r => .tup (by rw [upd_ne (by rintro rfl; exact hp _ h)]; exact h) (RepL.writeG hp nz r)
  | _, _, .lst z h r => .lst z (by rw [upd_ne (by rintro rfl; exact nz z)]; exact h) (RepL.writeG hp nz r)
  | _, _, .scr h r => .scr (by
      rcases h with ⟨z, h | ⟨o, h⟩⟩ | h
      · exact .inl ⟨z, .inl (by rw [upd_ne (by rintro rfl; exact nz z)]; exact h)⟩
      · exact .inl ⟨z, .inr ⟨o, by rw [upd_ne (by rintro rfl; exact nz z)]; exact h⟩⟩
      · exact .inr h) (RepL.writeG hp nz r)
  | _, _, .fn h => .fn h
  | _, _, .loc h => .loc h
theorem RepL.writeG (hp : ∀ xs, H p ≠ some (.tup xs)) (nz : ¬ Z p) : ∀ {vs : List V} {ds : List Py.D}, RepL K fA H Z η vs ds → RepL K fA (upd H p o) Z η vs ds
  | _, _, .nil => .nil
  | _, _, .cons r t => .cons (Rep.writeG hp nz r) (RepL.writeG hp nz t)
end
end
theorem nodup_at {l : List Addr} (h : l.Nodup) {i j : Nat} {x : Addr} (a : l[i]? = some x) (b : l[j]? = some x) : i = j := by
  obtain ⟨h1, e1⟩ := List.getElem?_eq_some_iff.mp a
  obtain ⟨h2, e2⟩ := List.getElem?_eq_some_iff.mp b
  exact (List.getElem_inj h).mp (e1.trans e2.symm)
section
variable {c : Ct} {k ka kb kc : Kd} {ks : List Kd} {σ : L2.St} {r : Py.Env} {H H1 H2 H' : Hp} {Z Z1 Z' : Addr → Prop} {η η1 η' : List Addr} {ω ω1 ω' : Py.Store} {D : Ends} {Q : VK} {v u : V} {d : Py.D} {p a : Addr} {o o' : HO} {cl cl' : Py.Cell} {n : Nat}
theorem Ct.WI.grow (w : c.WI H Z η ω) (hp : H p = some o) (nz : ¬ Z p) (nη : p ∉ η) (r : CellR c.X.K c.fA H Z η o cl) : c.WI H Z (η ++ [p]) (ω ++ [cl]) := by
  have up : ∀ {vs : List V} {ds : List Py.D}, c.RepL H Z η vs ds → c.RepL H Z (η ++ [p]) vs ds := fun r => r.mono (fun _ _ h _ => h) (fun _ h => h) ⟨[p], rfl⟩
  have len := w.len
  refine ⟨fun b z m => ?_, w.zd, fun b m => ?_, List.nodup_append.mpr ⟨w.nd, by simp, fun x hx y hy e => ?_⟩, by simp [len], fun m cl0 e => ?_⟩
  · rcases List.mem_append.mp m with q | q
    · exact w.zη b z q
    · rw [List.mem_singleton.mp q] at z
      exact nz z
  · rcases List.mem_append.mp m with q | q
    · exact w.ηd b q
    · rw [List.mem_singleton.mp q, hp]
      simp
  · rw [List.mem_singleton.mp hy] at e
    rw [e] at hx
    exact nη hx
  · by_cases hm : m < ω.length
    · rw [List.getElem?_append_left hm] at e
      obtain ⟨a, o0, e1, e2, e3⟩ := w.cell m cl0 e
      exact ⟨a, o0, by rw [List.getElem?_append_left (List.getElem?_eq_some_iff.mp e1).1]; exact e1, e2, e3.map fun r => up r⟩
    · rw [List.getElem?_append_right (by omega)] at e
      have h0 : m - ω.length = 0 := by
        have := (List.getElem?_eq_some_iff.mp e).1
        simp at this
        omega
      rw [h0] at e
      cases e
      exact ⟨p, o, by rw [List.getElem?_append_right (by omega), len, h0]; rfl, hp, r.map fun r => up r⟩
theorem Step.adopt (s : Step H Z η H' Z' η') (h : H p = none) : Step H Z η H' Z' (η' ++ [p]) := by
  refine ⟨s.keep, s.tups, s.there, s.zz, s.nz, ?_⟩
  obtain ⟨l, rfl, hl⟩ := s.eta
  refine ⟨l ++ [p], by simp, fun a ha => ?_⟩
  rcases List.mem_append.mp ha with q | q
  · exact hl a q
  · rw [List.mem_singleton.mp q]
    exact h
theorem Ct.WI.wrC (w : c.WI H Z η ω) (h1 : η[n]? = some a) (h2 : H a = some o) (hnt : ∀ xs, o ≠ .tup xs) (rc : CellR c.X.K c.fA H Z η o' cl') : c.WI (upd H a o') Z η (ω.set n cl') ∧ Step H Z η (upd H a o') Z η := by
  have am : a ∈ η := List.mem_of_getElem? h1
  have nz : ¬ Z a := fun z => w.zη a z am
  have hp : ∀ xs, H a ≠ some (.tup xs) := fun xs e => by rw [h2] at e; exact hnt xs (Option.some.inj e)
  have up : ∀ {vs : List V} {ds : List Py.D}, c.RepL H Z η vs ds → c.RepL (upd H a o') Z η vs ds := fun r => r.writeG hp nz
  have there : ∀ b, H b ≠ none → upd H a o' b ≠ none := fun b h => by
    by_cases e : b = a
    · subst e; rw [upd_same]; simp
    · rw [upd_ne e]; exact h
  refine ⟨⟨w.zη, fun b z => there b (w.zd b z), fun b m => there b (w.ηd b m), w.nd, by simp [w.len], fun m cl0 e => ?_⟩, ⟨fun b ob h hn => ?_, fun b xs h => ?_, there, fun _ z => z, fun _ z => .inl z, [], by simp, fun _ h => absurd h (by simp)⟩⟩
  · by_cases hm : m = n
    · subst hm
      have hlt : m < ω.length := by rw [← w.len]; exact (List.getElem?_eq_some_iff.mp h1).1
      rw [List.getElem?_set_self hlt] at e
      cases e
      exact ⟨a, o', h1, upd_same, rc.map fun r => up r⟩
    · rw [List.getElem?_set_ne (Ne.symm hm)] at e
      obtain ⟨b, o0, e1, e2, e3⟩ := w.cell m cl0 e
      exact ⟨b, o0, e1, by rw [upd_ne (by rintro rfl; exact hm (nodup_at w.nd e1 h1))]; exact e2, e3.map fun r => up r⟩
  · rw [upd_ne (by rintro rfl; exact hn am)]; exact h
  · rw [upd_ne (by rintro rfl; exact hp _ h)]; exact h
/-! ### reading -/
theorem rd_some {ω ω2 : Py.Store} {cl : Py.Cell} (h : Py.rdC d ω = .ok cl ω2) : ∃ n, d = .loc n ∧ ω[n]? = some cl ∧ ω2 = ω := by
  cases d <;> first | (cases h; done) | skip
  rename_i n
  unfold Py.rdC at h
  simp only at h
  split at h
  · rename_i e
    cases h
    exact ⟨n, rfl, e, rfl⟩
  · cases h
theorem rd_exc {ω ω2 : Py.Store} {x : Nat} (h : Py.rdC d ω = .exc x ω2) : False := by
  cases d <;> first | (cases h; done) | skip
  unfold Py.rdC at h
  simp only at h
  split at h <;> cases h
theorem rd_in {f : Py.Cell → Py.M Py.D} (h : post c k σ r H Z η Q (Py.bnd (Py.rdC d) f ω)) : ∃ n cl, d = .loc n ∧ ω[n]? = some cl ∧ post c k σ r H Z η Q (f cl ω) := by
  unfold Py.bnd at h
  cases hm : Py.rdC d ω with
  | stuck => rw [hm] at h; exact h.elim
  | exc x w => exact (rd_exc hm).elim
  | ok cl w =>
    rw [hm] at h
    obtain ⟨n, e1, e2, rfl⟩ := rd_some hm
    exact ⟨n, cl, e1, e2, h⟩
theorem rd_inS {f : Py.Cell → Py.SM} (h : postS c H Z η D (Py.bndE r (Py.rdC d) f ω)) : ∃ n cl, d = .loc n ∧ ω[n]? = some cl ∧ postS c H Z η D (f cl ω) := by
  unfold Py.bndE at h
  cases hm : Py.rdC d ω with
  | stuck => rw [hm] at h; exact h.elim
  | exc x w => exact (rd_exc hm).elim
  | ok cl w =>
    rw [hm] at h
    obtain ⟨n, e1, e2, rfl⟩ := rd_some hm
    exact ⟨n, cl, e1, e2, h⟩
theorem lif_in {α : Type} {o : Option α} {f : α → Py.M Py.D} (h : post c k σ r H Z η Q (Py.bnd (Py.lif o) f ω)) : ∃ x, o = some x ∧ post c k σ r H Z η Q (f x ω) := by
  cases o with
  | none => exact h.elim
  | some x => exact ⟨x, rfl, h⟩
theorem getL_in {f : List Py.D → Py.M Py.D} (h : post c k σ r H Z η Q (Py.bnd (Py.getL d) f ω)) : ∃ n xs, d = .loc n ∧ ω[n]? = some (.lst xs) ∧ post c k σ r H Z η Q (f xs ω) := by
  unfold Py.getL at h
  rw [Py.bnd_bnd] at h
  obtain ⟨n, cl, e1, e2, h⟩ := rd_in h
  obtain ⟨xs, h1, h⟩ := lif_in h
  cases cl <;> first | (cases h1; done) | skip
  cases h1
  exact ⟨n, _, e1, e2, h⟩
theorem getA_in {f : Nat × List (Nat × Py.D) → Py.M Py.D} (h : post c k σ r H Z η Q (Py.bnd (Py.getA d) f ω)) : ∃ n cc fs, d = .loc n ∧ ω[n]? = some (.ins cc fs) ∧ post c k σ r H Z η Q (f (cc, fs) ω) := by
  unfold Py.getA at h
  rw [Py.bnd_bnd] at h
  obtain ⟨n, cl, e1, e2, h⟩ := rd_in h
  obtain ⟨xs, h1, h⟩ := lif_in h
  cases cl <;> first | (cases h1; done) | skip
  cases h1
  exact ⟨n, _, _, e1, e2, h⟩
theorem getK_in {f : List (Int × Py.D) → Py.M Py.D} (h : post c k σ r H Z η Q (Py.bnd (Py.getK d) f ω)) : ∃ n xs, d = .loc n ∧ ω[n]? = some (.dct xs) ∧ post c k σ r H Z η Q (f xs ω) := by
  unfold Py.getK at h
  rw [Py.bnd_bnd] at h
  obtain ⟨n, cl, e1, e2, h⟩ := rd_in h
  obtain ⟨xs, h1, h⟩ := lif_in h
  cases cl <;> first | (cases h1; done) | skip
  cases h1
  exact ⟨n, _, e1, e2, h⟩
theorem loc_at (w : c.WI H Z η ω) (rp : c.View H Z η v (.loc n)) (hc : ω[n]? = some cl) : ∃ a o, v = .ref a ∧ η[n]? = some a ∧ H a = some o ∧ CellR c.X.K c.fA H Z η o cl := by
  obtain ⟨a, o, h1, h2, h3⟩ := w.cell n cl hc
  cases rp with
  | of rp =>
    cases rp with
    | loc e =>
      rw [h1] at e
      cases e
      exact ⟨a, o, rfl, h1, h2, h3⟩
theorem loc_lst {xs : List Py.D} (w : c.WI H Z η ω) (rp : c.View H Z η v (.loc n)) (hc : ω[n]? = some (.lst xs)) : ∃ a vs, v = .ref a ∧ η[n]? = some a ∧ H a = some (.lst vs) ∧ c.RepL H Z η vs xs := by
  obtain ⟨a, o, h1, h2, h3, h4⟩ := loc_at w rp hc
  cases o <;> first | exact h4.elim | exact ⟨a, _, h1, h2, h3, h4⟩
theorem loc_ins {cc : Nat} {fs : List (Nat × Py.D)} (w : c.WI H Z η ω) (rp : c.View H Z η v (.loc n)) (hc : ω[n]? = some (.ins cc fs)) : ∃ a C dx vs, v = .ref a ∧ η[n]? = some a ∧ H a = some (.ins C dx vs) ∧ c.fA.c cc = some C ∧ vs.map (·.1) = fs.map (fun p => c.fA.n p.1) ∧ c.RepL H Z η (vs.map (·.2)) (fs.map (·.2)) := by
  obtain ⟨a, o, h1, h2, h3, h4⟩ := loc_at w rp hc
  cases o <;> first | exact h4.elim | exact ⟨a, _, _, _, h1, h2, h3, h4⟩
theorem loc_dct {kvs : List (Int × Py.D)} (w : c.WI H Z η ω) (rp : c.View H Z η v (.loc n)) (hc : ω[n]? = some (.dct kvs)) : ∃ a vs, v = .ref a ∧ η[n]? = some a ∧ H a = some (.dK vs) ∧ vs.map (·.1) = kvs.map (fun p => Sum.inl p.1) ∧ c.RepL H Z η (vs.map (·.2)) (kvs.map (·.2)) := by
  obtain ⟨a, o, h1, h2, h3, h4⟩ := loc_at w rp hc
  cases o <;> first | exact h4.elim | exact ⟨a, _, h1, h2, h3, h4⟩
/-! ### attributes -/
theorem lookF {x : Nat} : ∀ {vs : List (Str × V)} {fs : List (Nat × Py.D)}, vs.map (·.1) = fs.map (fun p => c.fA.n p.1) → c.RepL H Z η (vs.map (·.2)) (fs.map (·.2)) →
    (∀ d, fs.lookup x = some d → ∃ v, vs.lookup (c.fA.n x) = some v ∧ c.Rep H Z η v d) ∧ (fs.lookup x = none → vs.lookup (c.fA.n x) = none)
  | [], [], _, _ => ⟨fun d h => (by cases h), fun _ => rfl⟩
  | [], _ :: _, h, _ => by cases h
  | _ :: _, [], h, _ => by cases h
  | (f, v) :: vs, (g, d) :: fs, h, r => by
    simp only [List.map_cons, List.cons.injEq] at h
    obtain ⟨rfl, h⟩ := h
    simp only [List.map_cons] at r
    cases r with
    | cons r1 r2 =>
      obtain ⟨ih1, ih2⟩ := lookF (x := x) h r2
      by_cases e : x = g
      · subst e
        refine ⟨fun d' hd => ?_, fun hd => ?_⟩
        · rw [List.lookup_cons_self] at hd
          cases hd
          exact ⟨v, List.lookup_cons_self, r1⟩
        · rw [List.lookup_cons_self] at hd
          cases hd
      · have e2 : (x == g) = false := by simpa using e
        have e3 : (c.fA.n x == c.fA.n g) = false := by
          rw [beq_eq_false_iff_ne]
          exact fun q => e (c.fA.inj _ _ q)
        refine ⟨fun d' hd => ?_, fun hd => ?_⟩
        · rw [List.lookup_cons, e2] at hd
          rw [List.lookup_cons, e3]
          exact ih1 d' hd
        · rw [List.lookup_cons, e2] at hd
          rw [List.lookup_cons, e3]
          exact ih2 hd
theorem putFN {x : Nat} {v : V} {d : Py.D} (q : c.Rep H Z η v d) : ∀ {vs : List (Str × V)} {fs : List (Nat × Py.D)}, vs.map (·.1) = fs.map (fun p => c.fA.n p.1) → c.RepL H Z η (vs.map (·.2)) (fs.map (·.2)) →
    (putF (c.fA.n x) v vs).map (·.1) = (Py.putN x d fs).map (fun p => c.fA.n p.1) ∧ c.RepL H Z η ((putF (c.fA.n x) v vs).map (·.2)) ((Py.putN x d fs).map (·.2))
  | [], [], _, _ => ⟨rfl, .one q⟩
  | [], _ :: _, h, _ => by cases h
  | _ :: _, [], h, _ => by cases h
  | (f, u) :: vs, (g, e) :: fs, h, r => by
    simp only [List.map_cons, List.cons.injEq] at h
    obtain ⟨rfl, h⟩ := h
    simp only [List.map_cons] at r
    cases r with
    | cons r1 r2 =>
      obtain ⟨ih1, ih2⟩ := putFN (x := x) q h r2
      unfold putF Py.putN
      by_cases e2 : g = x
      · subst e2
        rw [if_pos rfl, if_pos rfl]
        exact ⟨by simp [h], .cons q r2⟩
      · rw [if_neg (fun z => e2 (c.fA.inj _ _ z)), if_neg e2]
        exact ⟨by simp [ih1], .cons r1 ih2⟩
/-! ### expressions -/
/-- a new list becomes one of the store -/
theorem je_cell {e : Expr} {m : Py.Env → Py.M Py.D} (h : JE c .frs e m) : JE c .val e (fun r => Py.bnd (m r) fun x => Py.bnd (Py.lif (Py.lstD x)) fun xs => Py.alloc (.lst xs)) := by
  refine PE.imp h fun σ H Q h => tE.mono h.bnd fun v H1 ⟨Z, η, Z1, η1, ω1, r, d, en, s, q, h⟩ => ?_
  obtain ⟨xs, h1, h⟩ := lif_in h
  obtain rfl := lstD_some h1
  rcases q with ⟨p, vs, ds, rfl, e, h0, hp, rl, nz, nη⟩ | ⟨_, hn⟩
  · cases e
    have w2 := Ct.WI.grow en.w hp nz nη (o := .lst vs) (cl := .lst xs) rl
    have h0' : H p = none := h0
    refine (show ∀ v' H' Z' η', c.Nx H Z η H' Z' η' (ω1 ++ [.lst xs]) → ResR c .val r σ H H' Z' η' v' (.loc ω1.length) → Q v' H' from h) _ H1 Z1 (η1 ++ [p]) ⟨Step.adopt s h0', w2⟩ (.loc ?_)
    rw [List.getElem?_append_right (by rw [en.w.len]; omega), en.w.len, Nat.sub_self]
    rfl
  · exact absurd rfl (hn _)
theorem jb_fld {e : Expr} {x : Nat} {f : Str} {pos : Pos} {m : Py.Env → Py.M Py.D} (he : JE c ka e m) (hf : c.fA.n x = f) (hK : ∀ n C, c.fA.c n = some C → Cls c.X.K C ∧ NoAttr c.X.K C f) (hb : attributeBase e f c.X.env (eval e c.X.env) = eval e c.X.env) :
    JB c .val (.Attribute e f pos) (fun r => Py.bnd (m r) fun o => Py.bnd (Py.getA o) fun p => Py.lif (p.2.lookup x)) := by
  subst hf
  refine .plain (.inl rfl) (PE.imp (pe_fld he hb) fun σ H Q h => tE.mono h.bnd fun v H1 ⟨Z, η, Z1, η1, ω1, r, d, en, s, q, h⟩ => ?_) (fun _ => rfl)
  obtain ⟨n, cc, fs, rfl, hc, h⟩ := getA_in h
  obtain ⟨y, hy, h⟩ := h.lif
  obtain ⟨a, C, dx, vs, rfl, k1, k2, k3, k4, k5⟩ := loc_ins en.w (q.view en) hc
  obtain ⟨v, l1, l2⟩ := (lookF (x := x) k4 k5).1 y hy
  obtain ⟨g1, g2⟩ := hK cc C k3
  exact ⟨a, C, dx, vs, v, rfl, k2, g1, g2, l1, h v H1 Z1 η1 ⟨s, en.w⟩ l2⟩
/-- a place that is now written -/
theorem wr_ok (s : Step H Z η H1 Z1 η1) (w : c.WI H1 Z1 η1 ω1) (h1 : η1[n]? = some a) (h2 : H1 a = some o) (hnt : ∀ xs, o ≠ .tup xs) (rc : CellR c.X.K c.fA H1 Z1 η1 o' cl') : c.Nx H Z η (upd H1 a o') Z1 η1 (ω1.set n cl') := by
  obtain ⟨w2, s2⟩ := Ct.WI.wrC w h1 h2 hnt rc
  exact ⟨s.trans s2, w2⟩
end
end PyS
end
section
/-! methods, new instances; a list of the store, its methods -/
namespace PyS
open PySem PySem.Spec PyProof.Rows L2
section
variable {X : Cx} {CX : CXT} {k : Nat} {f C : Addr} {fd : FuncData} {ps : List Str} {sp : Sp} {E : L2.St → XK} {x m : Str} {p pos apos : Pos} {e o : Expr} {es : List Expr} {ta : TE} {t : TA}
/-- o.m(..): what is raised is wished at the slots -/
def tMethS (C : Addr) (m : Str) (sp : Sp) (E : L2.St → XK) (ta : TE) (t : TA) : TE := fun σ H Q => ta σ H fun x H1 => ∃ a dx fs, x = .ref a ∧ H1 a = some (.ins C dx fs) ∧ fs.lookup m = none ∧ t σ H1 fun vs H2 => sp (x :: vs) H2 Q (E σ)
theorem pe_methW {pl : Sem Bool} (he : PE X o ta) (c : Cls X.K C) (hm : Meth X.K C m f) (F : FnOk X.prog X.w X.K X.mg X.base CX k f fd ps sp) (hr : Room k X.A) (hb : Binds X.K fd ps []) (hx : ∀ σ, PassesAt CX X σ (E σ)) (ha : PA X (e :: es) t)
    (hst : starEach (e :: es) X.env = (false, eval e X.env) :: starEach es X.env) (hpl : (backTo pos (starEach es X.env)).any (·.1) = false)
    (ht : eval (.Call (.Attribute o m apos) (e :: es) [] pos) X.env = (do
      let ov ← eval o X.env
      standAt apos.atName
      let (f, first) ← holding [ov] (getMethod ov m pl)
      callWith pos f first (backTo pos (starEach (e :: es) X.env)) (backToKw pos (keywordEach [] X.env)))) :
    PE X (.Call (.Attribute o m apos) (e :: es) [] pos) (tMethS C m sp E ta t) := by
  refine ⟨fun pins s σ H Q I h => ?_⟩
  refine PySem.W.methodCall_KW (pl := pl) (thn (he.run pins s σ H _ I h) fun u s1 ⟨x, H1, I1, rx, a, dx, fs, ex, ea, l, q⟩ => ?_) ht
  subst ex
  obtain rfl : u = Value.ref a := rx
  refine getmeth_ok I1 ea c hm l ?_
  refine PySem.W.callWith_K (first := [.ref a]) (h₀ := X.base) I.ok.mod.kin hm.kp (thn (ha.run pos pins s1 σ H1 _ I1 q) fun us s2 ⟨vs, H2, I2, r, q2⟩ => ⟨I2.kIn, ?_⟩) hst hpl
  exact run_fnS (us := .ref a :: us) (vs := .ref a :: vs) F hr hb (hx σ) I2 (.cons rfl r) q2
theorem pe_methW0 {pl : Sem Bool} (he : PE X o ta) (c : Cls X.K C) (hm : Meth X.K C m f) (F : FnOk X.prog X.w X.K X.mg X.base CX k f fd ps sp) (hr : Room k X.A) (hb : Binds X.K fd ps []) (hx : ∀ σ, PassesAt CX X σ (E σ))
    (ht : eval (.Call (.Attribute o m apos) [] [] pos) X.env = (do
      let ov ← eval o X.env
      standAt apos.atName
      let (f, first) ← holding [ov] (getMethod ov m pl)
      callWith pos f first (backTo pos (starEach [] X.env)) (backToKw pos (keywordEach [] X.env)))) :
    PE X (.Call (.Attribute o m apos) [] [] pos) (tMethS C m sp E ta tNil) := by
  refine ⟨fun pins s σ H Q I h => ?_⟩
  refine PySem.W.methodCall_KW (pl := pl) (thn (he.run pins s σ H _ I h) fun u s1 ⟨x, H1, I1, rx, a, dx, fs, ex, ea, l, q⟩ => ?_) ht
  subst ex
  obtain rfl : u = Value.ref a := rx
  refine getmeth_ok I1 ea c hm l ?_
  exact PySem.W.callWith_K0 (first := [.ref a]) I1.kIn hm.kp (run_fnS (us := [.ref a]) (vs := [.ref a]) F hr hb (hx σ) I1 (.cons rfl .nil) q)
/-- C(..) -/
def tMakeS (C : Addr) (sp : Sp) (E : L2.St → XK) (t : TA) : TE := fun σ H Q => t σ H fun vs H1 => ∀ x dx, H1 x = none → H1 dx = none → dx ≠ x →
  sp (.ref x :: vs) (upd (upd H1 dx (.own x)) x (.ins C dx [])) (fun v H2 => v = .non ∧ Q (.ref x) H2) (E σ)
theorem run_makeS {pins : List (Addr × Obj)} {σ : L2.St} {H : Hp} {s : Shared} {Q : VK} {us : List Value} {vs : List V} (M : Mk X.K C f) (F : FnOk X.prog X.w X.K X.mg X.base CX k f fd ps sp) (hr : Room (k + 1) X.A) (hb : Binds X.K fd ps [])
    (hx : PassesAt CX X σ (E σ)) (I : Inv X pins σ H s) (r : Vals vs us)
    (h : ∀ x dx, H x = none → H dx = none → dx ≠ x → sp (.ref x :: vs) (upd (upd H dx (.own x)) x (.ins C dx [])) (fun v H2 => v = .non ∧ Q (.ref x) H2) (E σ)) :
    wpAny (model X.prog X.w) X.A (call (.ref C) us) (EP X pins σ Q) X.xe s := by
  have hq := h (s.heap.objs.size + 1) s.heap.objs.size (I.hok.fresh (Nat.le_succ _)) (I.hok.fresh (Nat.le_refl _)) (Nat.ne_of_lt (Nat.lt_succ_self _))
  have I2 := Inv.made (C := C) I
  have r2 : Vals (V.ref (s.heap.objs.size + 1) :: vs) (Value.ref (s.heap.objs.size + 1) :: us) := .cons rfl r
  have hl : (Value.ref (s.heap.objs.size + 1) :: us).length = ps.length := by
    have e := r2.length
    rw [F.len _ _ _ _ hq] at e
    exact e.symm
  have b := hb _ (Value.ref (s.heap.objs.size + 1) :: us) I2.kIn (by rw [List.append_nil]; exact hl)
  rw [List.append_nil] at b
  refine wpAny_call (make_map (f := f) I.kIn M.makes M.init (beq_iff_eq.mp M.fn) (codeAny_mono (F.run _ X.stack _ _ ⟨Value.ref (s.heap.objs.size + 1) :: us, []⟩ (Value.ref (s.heap.objs.size + 1) :: us) _ _ (E σ) (hr.make C us [])
    (I2.env0.make C us []) b r2 hq) fun r s' hq' => ?_))
  cases r with
  | error e => exact hx pins _ _ e s' I2 hq'
  | ok fl =>
    cases fl with
    | ret u =>
      obtain ⟨v, H', I3, rv, ev, q3⟩ := I2.after hq'
      subst ev
      exact ⟨rv, ⟨V.ref (s.heap.objs.size + 1), H', I3, rfl, q3⟩⟩
    | next => exact False.elim hq'
    | brk => exact False.elim hq'
    | cont => exact False.elim hq'
theorem pe_makeW (M : Mk X.K C f) (F : FnOk X.prog X.w X.K X.mg X.base CX k f fd ps sp) (hr : Room (k + 1) X.A) (hg : Gl X x) (hm : X.mg x = some (.ref C)) (hb : Binds X.K fd ps []) (hx : ∀ σ, PassesAt CX X σ (E σ))
    (ha : PA X (e :: es) t) (hdb : (x == ("__debug__" : Str)) = false) (he : starEach (e :: es) X.env = (false, eval e X.env) :: starEach es X.env) (hpl : (backTo pos (starEach es X.env)).any (·.1) = false) :
    PE X (.Call (.Name x p) (e :: es) [] pos) (tMakeS C sp E t) := by
  refine ⟨fun pins s σ H Q I h => ?_⟩
  refine wpAny_Call_Name_kw (ld_glob I hg hm ?_ hdb)
  refine PySem.W.callWith_K (h₀ := X.base) I.ok.mod.kin M.kp (thn (ha.run pos pins s σ H _ I h) fun us s1 ⟨vs, H1, I1, r, q⟩ => ⟨I1.kIn, ?_⟩) he hpl
  exact run_makeS M F hr hb (hx σ) I1 r q
theorem pe_makeW0 (M : Mk X.K C f) (F : FnOk X.prog X.w X.K X.mg X.base CX k f fd ps sp) (hr : Room (k + 1) X.A) (hg : Gl X x) (hm : X.mg x = some (.ref C)) (hb : Binds X.K fd ps []) (hx : ∀ σ, PassesAt CX X σ (E σ))
    (hdb : (x == ("__debug__" : Str)) = false) : PE X (.Call (.Name x p) [] [] pos) (tMakeS C sp E tNil) := by
  refine ⟨fun pins s σ H Q I h => ?_⟩
  refine wpAny_Call_Name_kw (ld_glob I hg hm ?_ hdb)
  exact PySem.W.callWith_K0 I.kIn M.kp (run_makeS (us := []) M F hr hb (hx σ) I .nil h)
end
section
variable {c : Ct} {ka kb kc : Kd} {ks : List Kd} {σ : L2.St} {r : Py.Env} {H H1 H2 H' : Hp} {Z Z1 Z' : Addr → Prop} {η η1 η' : List Addr} {ω ω1 ω' : Py.Store} {D : Ends} {Q : VK} {v u : V} {d : Py.D} {p a : Addr} {o o' : HO} {cl cl' : Py.Cell} {n : Nat}
/-- a def that stands at its place with room for one call more -/
structure MkAt (c : Ct) (φ : Nat → List Py.D → Py.M Py.D) (i : Nat) (a : Addr) (np : Nat) : Prop where
  ok : ∃ (j : Nat) (fd : FuncData) (ps : List Str), FnOk c.X.prog c.X.w c.X.K c.X.mg c.X.base (L2.CX c.X.prog c.X.w) j a fd ps (spF c.X.K c.fA c.eA np (φ i)) ∧ Room (j + 1) c.X.A ∧ Binds c.X.K fd ps []
theorem call_in {m : List Py.D → Py.M Py.D} {np : Nat} {vs : List V} {ds : List Py.D} (en : c.Env σ r H1 Z1 η1 ω1) (s : Step H Z η H1 Z1 η1) (rl : c.RepL H1 Z1 η1 vs ds) (hl : ds.length = np) (h : post c .val σ r H Z η Q (m ds ω1)) : spF c.X.K c.fA c.eA np m vs H1 Q (WE c.W σ) := by
  refine ⟨by rw [rl.length]; exact hl, Z1, η1, ω1, ds, en.w, rl, ?_⟩
  cases hm : m ds ω1 with
  | stuck => rw [hm] at h; exact h
  | exc x ω' => rw [hm] at h; exact fun H' Z' η' a st w ha => h H' Z' η' a ⟨s.trans st, w⟩ ha
  | ok d ω' => rw [hm] at h; exact fun v H' Z' η' st w rr => h v H' Z' η' ⟨s.trans st, w⟩ rr
/-- o.m(..) -/
theorem meth_t {C : Addr} {cc x i np : Nat} {m : Str} {ma : Py.Env → Py.M Py.D} {ms : Py.Env → Py.M (List Py.D)} {n : Nat} {mt : Nat → Nat → Option Nat} {φ : Nat → List Py.D → Py.M Py.D} (hC : c.fA.c cc = some C) (hx : c.fA.n x = m) (hmt : mt cc x = some i) (hst : ∀ ds ω, ds.length ≠ np → φ i ds ω = .stuck)
    (h : tE c .val (fun r => Py.bnd (ma r) fun o => Py.bnd (Py.getA o) fun p => Py.bnd (Py.lif (if p.1 = cc ∧ p.2.lookup x = none then mt cc x else none)) fun i => Py.bnd (ms r) fun xs => φ i (o :: xs)) σ H Q) :
    tMethS C m (spF c.X.K c.fA c.eA np (φ i)) (WE c.W) (tE c .val ma) (tA c (vals n) ms) σ H Q := by
  subst hx
  refine tE.mono h.bnd fun v H1 ⟨Z, η, Z1, η1, ω1, r, d, en, s, q, h⟩ => ?_
  obtain ⟨n0, c', fs, rfl, hc, h⟩ := getA_in h
  obtain ⟨j, hj, h⟩ := lif_in h
  simp only at hj
  split at hj
  · rename_i hcond
    obtain ⟨rfl, hl⟩ := hcond
    rw [hmt] at hj
    cases hj
    obtain ⟨a, C', dx, vs, rfl, k1, k2, k3, k4, k5⟩ := loc_ins en.w (q.view en) hc
    rw [hC] at k3
    cases k3
    refine ⟨a, dx, vs, rfl, k2, (lookF (x := x) k4 k5).2 hl, ?_⟩
    refine ⟨Z1, η1, ω1, r, en, ?_⟩
    unfold Py.bnd at h
    cases hm : ms r ω1 with
    | stuck => rw [hm] at h; exact h
    | exc y ω' => rw [hm] at h; exact fun H' Z' η' b n2 hb => h H' Z' η' b ⟨s.trans n2.s, n2.w⟩ hb
    | ok ds ω2 =>
      rw [hm] at h
      replace h : post c .val σ r H Z η Q (φ i (Py.D.loc n0 :: ds) ω2) := h
      intro us H2 Z2 η2 n2 rl _
      have hl : (Py.D.loc n0 :: ds).length = np := by
        apply Classical.byContradiction
        intro hne
        rw [show φ i (Py.D.loc n0 :: ds) ω2 = .stuck from hst _ ω2 hne] at h
        exact h
      exact call_in (en.step n2.s n2.w) (s.trans n2.s) (.cons (n2.s.rep en.w (show c.Rep H1 Z1 η1 (.ref a) (.loc n0) from q)) rl.rep) hl h
  · cases hj
theorem jb_meth {C g : Addr} {cc x i np n : Nat} {m : Str} {o e : Expr} {es : List Expr} {pos apos : Pos} {pl : Sem Bool} {ma : Py.Env → Py.M Py.D} {ms : Py.Env → Py.M (List Py.D)} {mt : Nat → Nat → Option Nat} {φ : Nat → List Py.D → Py.M Py.D} (ho : JE c .val o ma) (ha : JA c (vals n) (e :: es) ms)
    (hC : c.fA.c cc = some C) (cl : Cls c.X.K C) (hm : Meth c.X.K C m g) (hx : c.fA.n x = m) (hmt : mt cc x = some i) (F : FnAt c φ i g np) (hst : ∀ ds ω, ds.length ≠ np → φ i ds ω = .stuck) (tk : Takes c.X c.W)
    (hs : starEach (e :: es) c.X.env = (false, eval e c.X.env) :: starEach es c.X.env) (hpl : (backTo pos (starEach es c.X.env)).any (·.1) = false)
    (ht : eval (.Call (.Attribute o m apos) (e :: es) [] pos) c.X.env = (do
      let ov ← eval o c.X.env
      standAt apos.atName
      let (f, first) ← holding [ov] (getMethod ov m pl)
      callWith pos f first (backTo pos (starEach (e :: es) c.X.env)) (backToKw pos (keywordEach [] c.X.env)))) :
    JB c .val (.Call (.Attribute o m apos) (e :: es) [] pos) (fun r => Py.bnd (ma r) fun o => Py.bnd (Py.getA o) fun p => Py.bnd (Py.lif (if p.1 = cc ∧ p.2.lookup x = none then mt cc x else none)) fun i => Py.bnd (ms r) fun xs => φ i (o :: xs)) := by
  obtain ⟨⟨j, fd, ps, ok, hr, hb⟩, kp⟩ := F
  exact .plain (.inl rfl) (PE.imp (pe_methW ho cl hm ok hr hb (passAt tk) ha hs hpl ht) fun σ H Q h => meth_t hC hx hmt hst h) (fun _ => rfl)
theorem jb_meth0 {C g : Addr} {cc x i np : Nat} {m : Str} {o : Expr} {pos apos : Pos} {pl : Sem Bool} {ma : Py.Env → Py.M Py.D} {mt : Nat → Nat → Option Nat} {φ : Nat → List Py.D → Py.M Py.D} (ho : JE c .val o ma)
    (hC : c.fA.c cc = some C) (cl : Cls c.X.K C) (hm : Meth c.X.K C m g) (hx : c.fA.n x = m) (hmt : mt cc x = some i) (F : FnAt c φ i g np) (hst : ∀ ds ω, ds.length ≠ np → φ i ds ω = .stuck) (tk : Takes c.X c.W)
    (ht : eval (.Call (.Attribute o m apos) [] [] pos) c.X.env = (do
      let ov ← eval o c.X.env
      standAt apos.atName
      let (f, first) ← holding [ov] (getMethod ov m pl)
      callWith pos f first (backTo pos (starEach [] c.X.env)) (backToKw pos (keywordEach [] c.X.env)))) :
    JB c .val (.Call (.Attribute o m apos) [] [] pos) (fun r => Py.bnd (ma r) fun o => Py.bnd (Py.getA o) fun p => Py.bnd (Py.lif (if p.1 = cc ∧ p.2.lookup x = none then mt cc x else none)) fun i => Py.bnd (Py.ret []) fun xs => φ i (o :: xs)) := by
  obtain ⟨⟨j, fd, ps, ok, hr, hb⟩, kp⟩ := F
  refine .plain (.inl rfl) (PE.imp (pe_methW0 ho cl hm ok hr hb (passAt tk) ht) fun σ H Q h => ?_) (fun _ => rfl)
  refine tE.mono (meth_t (n := 0) hC hx hmt hst h) fun v H1 ⟨a, dx, fs, h1, h2, h3, h4⟩ => ⟨a, dx, fs, h1, h2, h3, ?_⟩
  obtain ⟨Z, η, ω, r, e, q⟩ := h4
  exact q [] H1 Z η ⟨.refl, e.w⟩ trivial List.nodup_nil
/-- C(..) -/
theorem make_t {C : Addr} {cc i np n : Nat} {ms : Py.Env → Py.M (List Py.D)} {ini : Nat → Option Nat} {φ : Nat → List Py.D → Py.M Py.D} (hC : c.fA.c cc = some C) (hi : ini cc = some i) (hst : ∀ ds ω, ds.length ≠ np → φ i ds ω = .stuck)
    (h : tE c .val (fun r => Py.bnd (ms r) fun xs => Py.bnd (Py.alloc (.ins cc [])) fun o => Py.bnd (Py.lif (ini cc)) fun i => Py.bnd (φ i (o :: xs)) fun z => Py.bnd (Py.lif (Py.nonD z)) fun _ => Py.ret o) σ H Q) :
    tMakeS C (spF c.X.K c.fA c.eA np (φ i)) (WE c.W) (tA c (vals n) ms) σ H Q := by
  refine tA.mono h.args fun vs H1 ⟨Z, η, Z1, η1, ω1, r, ds, ω0, hm, e, s, rl, _, q⟩ => fun x dx hx hdx ne => ?_
  have w1 : c.WI (upd H1 dx (.own x)) Z1 η1 ω1 := Ct.WI.new e.w hdx
  have hx' : upd H1 dx (.own x) x = none := by rw [upd_ne (Ne.symm ne)]; exact hx
  have w2 : c.WI (upd (upd H1 dx (.own x)) x (.ins C dx [])) Z1 η1 ω1 := Ct.WI.new w1 hx'
  have s1 : Step H1 Z1 η1 (upd H1 dx (.own x)) Z1 η1 := .new hdx
  have s2 : Step (upd H1 dx (.own x)) Z1 η1 (upd (upd H1 dx (.own x)) x (.ins C dx [])) Z1 η1 := .new hx'
  obtain ⟨nz, nη⟩ := Ct.WI.znone e.w hx
  have w3 := Ct.WI.grow w2 upd_same nz nη (cl := .ins cc []) ⟨hC, rfl, .nil⟩
  have s3 : Step H1 Z1 η1 (upd (upd H1 dx (.own x)) x (.ins C dx [])) Z1 (η1 ++ [x]) := Step.adopt (s1.trans s2) hx
  have rx : c.Rep (upd (upd H1 dx (.own x)) x (.ins C dx [])) Z1 (η1 ++ [x]) (.ref x) (.loc ω1.length) := by
    refine .loc ?_
    rw [List.getElem?_append_right (by rw [e.w.len]; omega), e.w.len, Nat.sub_self]
    rfl
  have rls := s3.repL e.w rl.rep
  replace q : post c .val σ r H Z η Q (Py.bnd (φ i (Py.D.loc ω1.length :: ds)) (fun z => Py.bnd (Py.lif (Py.nonD z)) fun _ => Py.ret (Py.D.loc ω1.length)) (ω1 ++ [.ins cc []])) := by
    have e0 : (Py.bnd (Py.alloc (.ins cc [])) fun o => Py.bnd (Py.lif (ini cc)) fun i => Py.bnd (φ i (o :: ds)) fun z => Py.bnd (Py.lif (Py.nonD z)) fun _ => Py.ret o) ω1 = (Py.bnd (φ i (Py.D.loc ω1.length :: ds)) (fun z => Py.bnd (Py.lif (Py.nonD z)) fun _ => Py.ret (Py.D.loc ω1.length)) (ω1 ++ [.ins cc []])) := by
      rw [hi]
      rfl
    rw [← e0]
    exact q
  have hl : (Py.D.loc ω1.length :: ds).length = np := by
    apply Classical.byContradiction
    intro hne
    unfold Py.bnd at q
    rw [show φ i (Py.D.loc ω1.length :: ds) (ω1 ++ [.ins cc []]) = .stuck from hst _ _ hne] at q
    exact q
  refine ⟨by rw [List.length_cons, rls.length]; exact hl, Z1, η1 ++ [x], ω1 ++ [.ins cc []], _, w3, .cons rx rls, ?_⟩
  unfold Py.bnd at q
  cases hmm : φ i (Py.D.loc ω1.length :: ds) (ω1 ++ [.ins cc []]) with
  | stuck => rw [hmm] at q; exact q
  | exc y ω' => rw [hmm] at q; exact fun H' Z' η' a st w ha => q H' Z' η' a ⟨(s.trans s3).trans st, w⟩ ha
  | ok d ω' =>
    rw [hmm] at q
    intro v H' Z' η' st w rv
    cases d <;> first | exact q.elim | skip
    cases rv
    exact ⟨rfl, q _ H' Z' η' ⟨(s.trans s3).trans st, w⟩ (st.rep w3 rx)⟩
theorem jb_newI {C g : Addr} {cc i np n : Nat} {x : Str} {e : Expr} {es : List Expr} {p pos : Pos} {ms : Py.Env → Py.M (List Py.D)} {ini : Nat → Option Nat} {φ : Nat → List Py.D → Py.M Py.D} (ha : JA c (vals n) (e :: es) ms)
    (hC : c.fA.c cc = some C) (M : Mk c.X.K C g) (hi : ini cc = some i) (F : MkAt c φ i g np) (hst : ∀ ds ω, ds.length ≠ np → φ i ds ω = .stuck) (tk : Takes c.X c.W) (hg : Gl c.X x) (hm : c.X.mg x = some (.ref C))
    (hdb : (x == ("__debug__" : Str)) = false) (he : starEach (e :: es) c.X.env = (false, eval e c.X.env) :: starEach es c.X.env) (hpl : (backTo pos (starEach es c.X.env)).any (·.1) = false) :
    JB c .val (.Call (.Name x p) (e :: es) [] pos) (fun r => Py.bnd (ms r) fun xs => Py.bnd (Py.alloc (.ins cc [])) fun o => Py.bnd (Py.lif (ini cc)) fun i => Py.bnd (φ i (o :: xs)) fun z => Py.bnd (Py.lif (Py.nonD z)) fun _ => Py.ret o) := by
  obtain ⟨⟨j, fd, ps, ok, hr, hb⟩⟩ := F
  exact .plain (.inl rfl) (PE.imp (pe_makeW M ok hr hg hm hb (passAt tk) ha hdb he hpl) fun σ H Q h => make_t hC hi hst h) (fun _ => rfl)
theorem jb_newI0 {C g : Addr} {cc i np : Nat} {x : Str} {p pos : Pos} {ini : Nat → Option Nat} {φ : Nat → List Py.D → Py.M Py.D}
    (hC : c.fA.c cc = some C) (M : Mk c.X.K C g) (hi : ini cc = some i) (F : MkAt c φ i g np) (hst : ∀ ds ω, ds.length ≠ np → φ i ds ω = .stuck) (tk : Takes c.X c.W) (hg : Gl c.X x) (hm : c.X.mg x = some (.ref C))
    (hdb : (x == ("__debug__" : Str)) = false) :
    JB c .val (.Call (.Name x p) [] [] pos) (fun r => Py.bnd (Py.ret []) fun xs => Py.bnd (Py.alloc (.ins cc [])) fun o => Py.bnd (Py.lif (ini cc)) fun i => Py.bnd (φ i (o :: xs)) fun z => Py.bnd (Py.lif (Py.nonD z)) fun _ => Py.ret o) := by
  obtain ⟨⟨j, fd, ps, ok, hr, hb⟩⟩ := F
  refine .plain (.inl rfl) (PE.imp (pe_makeW0 M ok hr hg hm hb (passAt tk) hdb) fun σ H Q h => ?_) (fun _ => rfl)
  obtain ⟨Z, η, ω, r, e, q⟩ := make_t (n := 0) hC hi hst h
  exact q [] H Z η ⟨.refl, e.w⟩ trivial List.nodup_nil
end
end PyS
end
section
/-! a list of the store: its items, its copies, its methods -/
namespace PyS
open PySem PySem.Spec PyProof.Rows L2
/-! a list against the empty one, whatever it holds -/
def rEm (n : Bool) : R2 := fun x y H Q => ∃ a b xs, x = .ref a ∧ y = .ref b ∧ H a = some (.lst xs) ∧ H b = some (.lst []) ∧ Q (.bl (if n then !xs.isEmpty else xs.isEmpty)) H
theorem op_emEq {X : Cx} (hu : X.A.units + 64 < cLine) : OpR X (compareOp .Eq) (rEm false) := by
  intro pins s σ H x y v u Q I rx ry h
  obtain ⟨a, b, xs, rfl, rfl, ha, hb, q⟩ := h
  cases rx
  cases ry
  obtain ⟨z, its, n, r, hl, e⟩ := I.lstM ha
  obtain ⟨z2, its2, n2, r2, hl2, e2⟩ := I.lstM hb
  cases r2
  have la : s.heap.IsList a its.toArray := ⟨_, e, rfl, n, rfl⟩
  have lb : s.heap.IsList b #[] := ⟨_, e2, rfl, n2, rfl⟩
  have len := r.length
  by_cases hx : xs = []
  · subst hx
    have : its = [] := by cases r; rfl
    subst this
    exact SeqAt.RcAt.lists (e := fun _ => true) la lb (by simp) (by omega) (fun j h1 _ => by simp at h1) _ _ _ _ ⟨.bl _, H, I, rfl, by simpa using q⟩
  · have hne : its ≠ [] := fun e => by subst e; cases r; exact hx rfl
    have h2 : xs.isEmpty = false := by cases xs <;> first | rfl | exact absurd rfl hx
    have hsz : (its.toArray.size != (#[] : Array Value).size) = true := by
      cases its with
      | nil => exact absurd rfl hne
      | cons _ _ => simp
    refine SeqAt.RcAt.lists_lengths la lb hsz (by omega) _ _ _ _ ⟨.bl _, H, I, rfl, ?_⟩
    rw [if_neg (by decide), h2] at q
    exact q
theorem op_emNe {X : Cx} (hu : X.A.units + 64 < cLine) : OpR X (compareOp .NotEq) (rEm true) := by
  intro pins s σ H x y v u Q I rx ry h
  obtain ⟨a, b, xs, rfl, rfl, ha, hb, q⟩ := h
  cases rx
  cases ry
  obtain ⟨z, its, n, r, hl, e⟩ := I.lstM ha
  obtain ⟨z2, its2, n2, r2, hl2, e2⟩ := I.lstM hb
  cases r2
  have la : s.heap.IsList a its.toArray := ⟨_, e, rfl, n, rfl⟩
  have lb : s.heap.IsList b #[] := ⟨_, e2, rfl, n2, rfl⟩
  by_cases hx : xs = []
  · subst hx
    have : its = [] := by cases r; rfl
    subst this
    exact SeqAt.RcNeAt.lists (e := fun _ => true) la lb (by simp) (by omega) (fun j h1 _ => by simp at h1) _ _ _ _ ⟨.bl _, H, I, rfl, by simpa using q⟩
  · have hne : its ≠ [] := fun e => by subst e; cases r; exact hx rfl
    have h2 : xs.isEmpty = false := by cases xs <;> first | rfl | exact absurd rfl hx
    have hsz : (its.toArray.size != (#[] : Array Value).size) = true := by
      cases its with
      | nil => exact absurd rfl hne
      | cons _ _ => simp
    refine SeqAt.RcNeAt.lists_lengths la lb hsz (by omega) _ _ _ _ ⟨.bl _, H, I, rfl, ?_⟩
    rw [if_pos rfl, h2] at q
    exact q
section
variable {c : Ct} {k ka kb kc : Kd} {ks : List Kd} {σ : L2.St} {r : Py.Env} {H H1 H2 H' : Hp} {Z Z1 Z' : Addr → Prop} {η η1 η' : List Addr} {ω ω1 ω' : Py.Store} {D : Ends} {Q : VK} {v u : V} {d : Py.D} {p a : Addr} {o o' : HO} {cl cl' : Py.Cell} {n : Nat}
/-- a cell's list behind the operands -/
theorem getL_lif {g : List Py.D → Option Py.D} (en : c.Env σ r H1 Z1 η1 ω1) (vd : ResR c ka r σ H H1 Z1 η1 v d) (h : post c k σ r H Z η Q (Py.bnd (Py.getL d) (fun xs => Py.lif (g xs)) ω1)) :
    ∃ n a vs xs z, d = .loc n ∧ v = .ref a ∧ η1[n]? = some a ∧ H1 a = some (.lst vs) ∧ c.RepL H1 Z1 η1 vs xs ∧ g xs = some z ∧ ∀ v' H' Z' η', c.Nx H Z η H' Z' η' ω1 → ResR c k r σ H H' Z' η' v' z → Q v' H' := by
  obtain ⟨n, xs, rfl, hc, h⟩ := getL_in h
  obtain ⟨a, vs, rfl, h1, h2, rl⟩ := loc_lst en.w (vd.view en) hc
  obtain ⟨z, hz, q⟩ := post.lif h
  exact ⟨n, a, vs, xs, z, rfl, rfl, h1, h2, rl, hz, q⟩
theorem jb_subC {a b : Expr} {pos : Pos} {ma mb : Py.Env → Py.M Py.D} (ha : JE c ka a ma) (hb : JE c kb b mb) (hs : PlainIx b) :
    JB c .val (.Subscript a b pos) (fun r => Py.bnd (ma r) fun o => Py.bnd (mb r) fun y => Py.bnd (Py.getL o) fun xs => Py.lif (Py.subD (.lst xs) y)) := by
  refine .plain (.inl rfl) (PE.imp (pe_ix ix_seq ha hb hs) fun σ H Q h => tE.mono h.bnd fun x H1 hx => tE.mono hx.bnd fun y H2 hy => ?_) (fun _ => rfl)
  obtain ⟨Z, η, Z1, η1, ω1, r, d, e, en, s, vd, ve, h⟩ := hy
  obtain ⟨n, a, vs, xs, z, rfl, rfl, _, h1, rl, hg, q⟩ := getL_lif en vd h
  cases e <;> (try (simp [Py.subD] at hg; done))
  rename_i i
  cases (ve.view en).int
  simp only [Py.subD] at hg
  obtain ⟨v, h2, h3⟩ := atI_rep rl hg
  exact .inl ⟨a, vs, _, v, rfl, rfl, .of h1, h2, q _ _ Z1 η1 ⟨s, en.w⟩ h3⟩
theorem jb_cmpC {op : CmpOp} {a b : Expr} {pos : Pos} {ma mb : Py.Env → Py.M Py.D} {g : Py.D → Py.D → Option Bool} (ho : OpB c.X (compareOp op) c g) (ha : JE c ka a ma) (hb : JE c kb b mb) (hm : behindInMarks op b = false) :
    JB c .val (.Compare a [op] [b] pos) (fun r => Py.bnd (ma r) fun x => Py.bnd (mb r) fun y => Py.bnd (Py.getL x) fun xs => Py.lif ((g (.lst xs) y).map .bl)) := by
  obtain ⟨r, h1, hr⟩ := ho
  refine .of (.inl rfl) (pe_cmpR h1 ha hb hm) (pt_cmpR h1 ha hb hm) fun σ H Q h => tE.mono h.bnd fun x H1 hx => tE.mono hx.bnd fun y H2 hy => ?_
  obtain ⟨Z, η, Z1, η1, ω1, r, d, e, en, s, vd, ve, h⟩ := hy
  obtain ⟨n, a, vs, xs, z, rfl, rfl, _, h1, rl, hg, q⟩ := getL_lif (g := fun xs => (g (.lst xs) e).map .bl) en vd h
  obtain ⟨b, hb, rfl⟩ := Option.map_eq_some_iff.mp hg
  exact hr _ _ (.lst xs) e b H2 Z1 η1 Q (.ls h1 rl) (ve.view en) hb (q _ _ Z1 η1 ⟨s, en.w⟩ (.bl b))
/-- a list == [], a list != [] -/
theorem jb_isE {n : Bool} {a : Expr} {p2 pos : Pos} {ma : Py.Env → Py.M Py.D} (hu : c.X.A.units + 64 < cLine) (ha : JE c ka a ma) :
    JB c .val (.Compare a [if n then .NotEq else .Eq] [.List [] p2] pos) (fun r => Py.bnd (ma r) fun x => Py.lif ((Py.lstD x).map fun xs => .bl (if n then !xs.isEmpty else xs.isEmpty))) := by
  have op : OpR c.X (compareOp (if n then .NotEq else .Eq)) (rEm n) := by cases n; exact op_emEq hu; exact op_emNe hu
  have el := pe_lst (X := c.X) (pos := p2) pa_nil
  have hm : behindInMarks (if n then CmpOp.NotEq else .Eq) (.List [] p2) = false := by cases n <;> rfl
  refine .of (.inl rfl) (pe_cmpR op ha el hm) (pt_cmpR op ha el hm) fun σ H Q h => tE.mono h.bnd fun x H1 hx => ?_
  obtain ⟨Z, η, Z1, η1, ω1, r, d, y, en, s, vd, hg, q⟩ := hx.pure (g := fun x => (Py.lstD x).map fun xs => .bl (if n then !xs.isEmpty else xs.isEmpty))
  obtain ⟨xs, h1, rfl⟩ := Option.map_eq_some_iff.mp hg
  obtain rfl := lstD_some h1
  obtain ⟨a, vs, rfl, h2, rl⟩ := vd.lst
  refine ⟨by rw [sizeLine_eq]; decide, fun p hp => ?_⟩
  refine ⟨a, p, vs, rfl, rfl, by rw [upd_ne (ne_of_none h2 hp)]; exact h2, upd_same, ?_⟩
  have e : vs.isEmpty = xs.isEmpty := by
    have := rl.length
    cases vs <;> cases xs <;> first | rfl | simp at this
  rw [e]
  have nx : c.Nx H Z η H1 Z1 η1 ω1 := ⟨s, en.w⟩
  exact q _ _ Z1 η1 (nx.new hp) (.bl _)
/-- tuple(a), list(a) -/
theorem jb_copC {x : Str} {p pos : Pos} {T : String} {a : Expr} {ma : Py.Env → Py.M Py.D} {g : List Py.D → Option Py.D} (hc : CallS c (.type T) g) (hg : Gl c.X x) (hm : c.X.mg x = none) (hv : bootBuiltins x = some (.type T)) (ha : JE c ka a ma)
    (hn : x ≠ "__name__") (hdb : (x == ("__debug__" : Str)) = false) (he : starEach [a] c.X.env = (false, eval a c.X.env) :: starEach [] c.X.env) (hpl : (backTo pos (starEach [] c.X.env)).any (·.1) = false) :
    JB c .frs (.Call (.Name x p) [a] [] pos) (fun r => Py.bnd (ma r) fun o => Py.bnd (Py.getL o) fun xs => Py.lif (g [.lst xs])) := by
  obtain ⟨r, h1, h2⟩ := hc
  refine .plain (.inr rfl) (PE.imp (pe_callTy h1 hg hm hv (pa_cons ha pa_nil he) hn hdb he hpl) fun σ H Q q => tE.mono q.bnd fun v H1 hx => ?_) (fun _ => rfl)
  obtain ⟨Z, η, Z1, η1, ω1, r, d, en, s, vd, h⟩ := hx
  obtain ⟨n, a, vs, xs, z, rfl, rfl, _, h3, rl, hg, q⟩ := getL_lif (g := fun xs => g [.lst xs]) en vd h
  exact h2 [V.ref a] [.lst xs] z H1 Z1 η1 ω1 Q en.w (.cons (.ls h3 rl) .nil) hg (OutS.fin en s q)
/-! ### dicts -/
theorem putKD {kk : Int} (q : c.Rep H Z η v d) : ∀ {vs : List (Key × V)} {kvs : List (Int × Py.D)}, vs.map (·.1) = kvs.map (fun p => Sum.inl p.1) → c.RepL H Z η (vs.map (·.2)) (kvs.map (·.2)) →
    (vs.any fun kv => decide (kv.1 = Sum.inl kk)) = (kvs.any fun kv => decide (kv.1 = kk)) ∧
    ((vs.map fun kv => if kv.1 = Sum.inl kk then (kv.1, v) else kv).map (·.1) = (kvs.map fun kv => if kv.1 = kk then (kv.1, d) else kv).map (fun p => Sum.inl p.1) ∧
      c.RepL H Z η ((vs.map fun kv => if kv.1 = Sum.inl kk then (kv.1, v) else kv).map (·.2)) ((kvs.map fun kv => if kv.1 = kk then (kv.1, d) else kv).map (·.2)))
  | [], [], _, _ => ⟨rfl, rfl, .nil⟩
  | [], _ :: _, h, _ => by cases h
  | _ :: _, [], h, _ => by cases h
  | (f, u) :: vs, (g, e) :: kvs, h, r => by
    simp only [List.map_cons, List.cons.injEq] at h
    obtain ⟨rfl, h⟩ := h
    simp only [List.map_cons] at r
    cases r with
    | cons r1 r2 =>
      obtain ⟨i1, i2, i3⟩ := putKD (kk := kk) q h r2
      by_cases e2 : g = kk
      · subst e2
        refine ⟨by simp, by simp only [List.map_cons, if_true]; rw [i2], ?_⟩
        simp only [List.map_cons, if_true]
        exact .cons q i3
      · have e3 : ¬ (Sum.inl g : Key) = Sum.inl kk := fun z => e2 (by cases z; rfl)
        refine ⟨by simp [i1], by simp only [List.map_cons, if_neg e2, if_neg e3]; rw [i2], ?_⟩
        simp only [List.map_cons, if_neg e2, if_neg e3]
        exact .cons r1 i3
theorem putK_D {kk : Int} {vs : List (Key × V)} {kvs : List (Int × Py.D)} (q : c.Rep H Z η v d) (h : vs.map (·.1) = kvs.map (fun p => Sum.inl p.1)) (r : c.RepL H Z η (vs.map (·.2)) (kvs.map (·.2))) :
    (putK vs (Sum.inl kk) v).map (·.1) = (Py.putD kvs kk d).map (fun p => Sum.inl p.1) ∧ c.RepL H Z η ((putK vs (Sum.inl kk) v).map (·.2)) ((Py.putD kvs kk d).map (·.2)) := by
  obtain ⟨i1, i2, i3⟩ := putKD (kk := kk) q h r
  unfold putK Py.putD
  rw [i1]
  split
  · exact ⟨i2, i3⟩
  · refine ⟨by rw [List.map_append, List.map_append, h]; rfl, ?_⟩
    rw [List.map_append, List.map_append]
    exact r.append (.one q)
theorem valV_D {kk : Int} : ∀ {vs : List (Key × V)} {kvs : List (Int × Py.D)}, vs.map (·.1) = kvs.map (fun p => Sum.inl p.1) → c.RepL H Z η (vs.map (·.2)) (kvs.map (·.2)) →
    (∀ d, Py.valD kvs kk = some d → ∃ v, valV vs (Sum.inl kk) = some v ∧ c.Rep H Z η v d) ∧ (Py.valD kvs kk = none → valV vs (Sum.inl kk) = none)
  | [], [], _, _ => ⟨fun d h => (by cases h), fun _ => rfl⟩
  | [], _ :: _, h, _ => by cases h
  | _ :: _, [], h, _ => by cases h
  | (f, u) :: vs, (g, e) :: kvs, h, r => by
    simp only [List.map_cons, List.cons.injEq] at h
    obtain ⟨rfl, h⟩ := h
    simp only [List.map_cons] at r
    cases r with
    | cons r1 r2 =>
      obtain ⟨i1, i2⟩ := valV_D (kk := kk) h r2
      by_cases e2 : g = kk
      · subst e2
        have a1 : Py.valD ((g, e) :: kvs) g = some e := by simp [Py.valD]
        have a2 : valV ((Sum.inl g, u) :: vs) (Sum.inl g : Key) = some u := valV_pos rfl
        exact ⟨fun d hd => by rw [a1] at hd; cases hd; exact ⟨u, a2, r1⟩, fun hd => by rw [a1] at hd; cases hd⟩
      · have e3 : ¬ (Sum.inl g : Key) = Sum.inl kk := fun z => e2 (by cases z; rfl)
        have a1 : Py.valD ((g, e) :: kvs) kk = Py.valD kvs kk := by simp [Py.valD, e2]
        have a2 : valV ((Sum.inl g, u) :: vs) (Sum.inl kk : Key) = valV vs (Sum.inl kk) := valV_neg e3
        rw [a1, a2]
        exact ⟨i1, i2⟩
theorem asInt_some' {x : Py.D} {i : Int} (h : Py.asInt x = some i) : x = .int i := asInt_some h
/-- {} -/
theorem jb_newD {pos : Pos} : JB c .val (.Dict [] [] pos) (fun _ => Py.alloc (.dct [])) := by
  refine .plain (.inl rfl) (PE.imp pe_dnewK fun σ H Q ⟨Z, η, ω, r, en, h⟩ => fun p hp => ?_) (fun _ => rfl)
  have w1 : c.WI (upd H p (.dK [])) Z η ω := Ct.WI.new en.w hp
  obtain ⟨nz, nη⟩ := Ct.WI.znone en.w hp
  have w2 := Ct.WI.grow w1 upd_same nz nη (cl := .dct []) ⟨rfl, .nil⟩
  refine (show ∀ v' H' Z' η', c.Nx H Z η H' Z' η' (ω ++ [.dct []]) → ResR c .val r σ H H' Z' η' v' (.loc ω.length) → Q v' H' from h) _ _ Z (η ++ [p]) ⟨Step.adopt (.new hp) hp, w2⟩ (.loc ?_)
  rw [List.getElem?_append_right (by rw [en.w.len]; omega), en.w.len, Nat.sub_self]
  rfl
/-- a.get(k, e) -/
theorem jb_getD {a ke e : Expr} {apos cpos : Pos} {ma mk me : Py.Env → Py.M Py.D} (hu : c.X.A.units + 1 < cLine) (ha : JE c .val a ma) (hk : JE c .val ke mk) (he : JE c .val e me) (m2 : M2 c.X a "get" apos ke e cpos) :
    JB c .val (.Call (.Attribute a "get" apos) [ke, e] [] cpos) (fun r => Py.bnd (ma r) fun o => Py.bnd (Py.getK o) fun _ => Py.bnd (mk r) fun y => Py.bnd (me r) fun z => Py.bnd (Py.getK o) fun kvs => Py.lif ((Py.asInt y).map fun k => (Py.valD kvs k).getD z)) := by
  refine .plain (.inl rfl) (PE.imp (pe_dget2 hu ha hk he m2) fun σ H Q h => tE.mono h.bnd fun x H1 ⟨Z, η, Z1, η1, ω1, r, d, en, s, q, h⟩ => ?_) (fun _ => rfl)
  obtain ⟨n, kvs, rfl, hc, h⟩ := getK_in h
  obtain ⟨a, vs, rfl, h1, h2, _, _⟩ := loc_dct en.w (q.view en) hc
  have hx : Mid c .val .val σ H Q (fun r o => Py.bnd (mk r) fun y => Py.bnd (me r) fun z => Py.bnd (Py.getK o) fun kvs => Py.lif ((Py.asInt y).map fun k => (Py.valD kvs k).getD z)) (.ref a) H1 := ⟨Z, η, Z1, η1, ω1, r, .loc n, en, s, q, h⟩
  refine ⟨a, rfl, .inl ⟨vs, .inl h2⟩, tE.mono hx.bnd fun y H2 hy => tE.mono hy.bnd fun z H3 ⟨Z, η, Z3, η3, ω3, r, o, y', z', en, s, q1, q2, q3, h⟩ => ?_⟩
  obtain ⟨n', kvs', rfl, hc', h⟩ := getK_in h
  obtain ⟨a', vs', e1, k1, k2, k3, k4⟩ := loc_dct en.w (q1.view en) hc'
  cases e1
  obtain ⟨z2, hz, hq⟩ := post.lif h
  obtain ⟨kk, hk, rfl⟩ := Option.map_eq_some_iff.mp hz
  obtain rfl := asInt_some hk
  cases (q2.view en).int
  obtain ⟨i1, i2⟩ := valV_D (kk := kk) k3 k4
  refine ⟨valV vs' (Sum.inl kk), DGet.k (k := Sum.inl kk) k2, ?_⟩
  cases hv : Py.valD kvs' kk with
  | none =>
    rw [hv] at hq
    rw [i2 hv]
    exact hq _ _ Z3 η3 ⟨s, en.w⟩ q3
  | some d =>
    rw [hv] at hq
    obtain ⟨v, j1, j2⟩ := i1 d hv
    rw [j1]
    exact hq _ _ Z3 η3 ⟨s, en.w⟩ j2
theorem tS.toE {m : Py.Env → Py.M Py.D} (h : tS c (fun r => Py.bndE r (m r) fun _ => Py.nextS r) D σ H) : tE c k m σ H (fun _ H1 => D.nx σ H1) :=
  tE.mono h.bndE fun v H1 ⟨Z, η, Z1, η1, ω0, ω1, r, d, e0, e, n, q, h⟩ => h σ H1 Z1 η1 e .refl
/-- a[k] = e, a dict of the store -/
theorem js_setK {a ie e : Expr} {pos pos' : Pos} {ma mi me : Py.Env → Py.M Py.D} (hu : c.X.A.units + 1 < cLine) (ha : JE c .val a ma) (hi : JE c .val ie mi) (he : JE c .val e me) (hs : swapsWith e (some (.Subscript a ie pos')) pos.line c.X.env = pure false) :
    JS c (.Assign [.Subscript a ie pos'] e pos) (fun r => Py.bndE r (Py.bnd (me r) fun d => Py.bnd (ma r) fun o => Py.bnd (mi r) fun y => Py.bnd (Py.lif (Py.asInt y)) fun k => Py.bnd (Py.getK o) fun kvs => if kvs.length < Py.LIM then Py.wrC o (.dct (Py.putD kvs k d)) else Py.fail) fun _ => Py.nextS r) := by
  refine PS.imp (ps_dput hu ha hi he hs) fun D σ H h => ?_
  have h := tS.toE (k := .val) h
  refine tE.mono h.bnd fun v H1 hx => tE.mono hx.bnd fun x H2 hy => tE.mono hy.bnd fun y H3 ⟨Z, η, Z3, η3, ω3, r, d, o, y', en, s, q1, q2, q3, h⟩ => ?_
  obtain ⟨kk, hk, h⟩ := lif_in h
  obtain rfl := asInt_some hk
  cases (q3.view en).int
  obtain ⟨n, kvs, rfl, hc, h⟩ := getK_in h
  obtain ⟨a, vs, rfl, h1, h2, h3, h4⟩ := loc_dct en.w (q2.view en) hc
  by_cases hl : kvs.length < Py.LIM
  · rw [if_pos hl] at h
    have hl2 : vs.length = kvs.length := by
      have := congrArg List.length h3
      simpa using this
    obtain ⟨p1, p2⟩ := putK_D (kk := kk) q1 h3 h4
    refine ⟨a, _, rfl, .inl ⟨vs, Sum.inl kk, h2, rfl, by rw [hl2, ← lim_eq]; exact hl, rfl⟩, ?_⟩
    exact h .non _ Z3 η3 (wr_ok s en.w h1 h2 (fun _ z => by cases z) ⟨p1, p2⟩) .non
  · rw [if_neg hl] at h
    exact h.elim
/-- a.append(e), a list of the store -/
theorem jb_appC {a e : Expr} {apos cpos : Pos} {ma me : Py.Env → Py.M Py.D} (ha : JE c .val a ma) (he : JE c .val e me) (hb : attributeBase a "append" c.X.env (eval a c.X.env) = eval a c.X.env) (hs : starEach [e] c.X.env = [(false, eval e c.X.env)]) (hline : (apos.endLine == cpos.line) = true) :
    JB c .val (.Call (.Attribute a "append" apos) [e] [] cpos) (fun r => Py.bnd (ma r) fun o => Py.bnd (Py.getL o) fun _ => Py.bnd (me r) fun d => Py.bnd (Py.getL o) fun xs => if xs.length < Py.LIM then Py.wrC o (.lst (xs ++ [d])) else Py.fail) := by
  have hfew : ((backTo cpos (starEach [e] c.X.env)).all (fun x => !x.1) && (backToKw cpos (keywordEach [] c.X.env)).all (fun x => x.1.isSome) && decide (([e] : List Expr).length + ([] : List Keyword).length + (if ([] : List Keyword).isEmpty then 0 else 1) < 30)) = true := by
    rw [hs]; rfl
  refine .plain (.inl rfl) (PE.imp (pe_bm PySem.F.plainAttrs_list PySem.F.slot_list_append PySem.F.type_list_append mt_append ha (pa_cons he pa_nil hs) hb hfew hline hs (by rfl)) fun σ H Q h => tE.mono h.bnd fun x H1 ⟨Z, η, Z1, η1, ω1, r, d, en, s, q, h⟩ => ?_) (fun _ => rfl)
  obtain ⟨n, xs, rfl, hc, h⟩ := getL_in h
  obtain ⟨a, vs, rfl, h1, h2, _⟩ := loc_lst en.w (q.view en) hc
  have hx : Mid c .val .val σ H Q (fun r o => Py.bnd (me r) fun d => Py.bnd (Py.getL o) fun xs => if xs.length < Py.LIM then Py.wrC o (.lst (xs ++ [d])) else Py.fail) (.ref a) H1 := ⟨Z, η, Z1, η1, ω1, r, .loc n, en, s, q, h⟩
  refine ⟨.inl ⟨rfl, vs, .of h2⟩, tE.mono hx.bnd fun y H2 ⟨Z, η, Z3, η3, ω3, r, o, d, en, s, q1, q2, h⟩ => ?_⟩
  obtain ⟨n', xs', rfl, hc', h⟩ := getL_in h
  obtain ⟨a', vs', e1, k1, k2, k3⟩ := loc_lst en.w (q1.view en) hc'
  cases e1
  by_cases hl : xs'.length < Py.LIM
  · rw [if_pos hl] at h
    exact ⟨a, vs', y, rfl, rfl, k2, by rw [k3.length, ← lim_eq]; exact hl, h .non _ Z3 η3 (wr_ok s en.w k1 k2 (fun _ z => by cases z) (k3.append (.one q2))) .non⟩
  · rw [if_neg hl] at h
    exact h.elim
end
end PyS
end
section
/-! a list of the store: its items, its copies, its methods -/
namespace PyS
open PySem PySem.Spec PyProof.Rows L2
section
variable {c : Ct} {k ka kb : Kd} {σ : L2.St} {r : Py.Env} {H H1 : Hp} {Z Z1 : Addr → Prop} {η η1 : List Addr} {ω ω1 : Py.Store} {p : Addr} {us us' : List V}
/-! ### comprehensions whose items are lists of the store -/
theorem bndOk {α β : Type} {m : Py.M α} {f : α → Py.M β} {w w' : Py.Store} {a : α} (h : m w = .ok a w') : Py.bnd m f w = f a w' := by
  unfold Py.bnd; rw [h]
def cStepB (B : Py.Env → Py.D → Py.M Py.Env) (t : Py.Tgt) (mt : Py.Env → Py.M Bool) (me : Py.Env → Py.M Py.D) (r : Py.Env) (x : Py.D) : Py.M (Option Py.D) :=
  Py.noexc (Py.bnd (B (Py.wipeT r t) x) fun r' => Py.bnd (mt r') fun k => if k = true then Py.bnd (me r') fun y => Py.ret (some y) else Py.ret none)
theorem compB_noexc {B : Py.Env → Py.D → Py.M Py.Env} {t : Py.Tgt} {mt : Py.Env → Py.M Bool} {me : Py.Env → Py.M Py.D} {r : Py.Env} : ∀ {xs : List Py.D} {ω : Py.Store} {x : Nat} {ω' : Py.Store}, Py.compM xs (cStepB B t mt me r) ω ≠ .exc x ω'
  | [], ω, x, ω' => by simp [Py.compM, Py.ret]
  | d :: xs, ω, x, ω' => by
    simp only [Py.compM, Py.bnd]
    cases h1 : cStepB B t mt me r d ω with
    | stuck => simp
    | exc y w =>
      exfalso
      unfold cStepB Py.noexc at h1
      split at h1 <;> cases h1
    | ok o w =>
      simp only
      have ih := compB_noexc (B := B) (t := t) (mt := mt) (me := me) (r := r) (xs := xs) (ω := w) (x := x) (ω' := ω')
      cases h2 : Py.compM xs (cStepB B t mt me r) w with
      | stuck => simp
      | exc y w2 =>
        simp only
        rw [h2] at ih
        exact ih
      | ok ys w2 => simp [Py.ret]
theorem cStepB_ok {ω : Py.Store} {B : Py.Env → Py.D → Py.M Py.Env} {t : Py.Tgt} {mt : Py.Env → Py.M Bool} {me : Py.Env → Py.M Py.D} {d : Py.D} {o : Option Py.D} {ω' : Py.Store} (hB1 : ∀ r x ω r' ω', B r x ω = .ok r' ω' → ω' = ω) (h : cStepB B t mt me r d ω = .ok o ω') :
    ∃ r' k ωk, B (Py.wipeT r t) d ω = .ok r' ω ∧ mt r' ω = .ok k ωk ∧ ((k = true ∧ ∃ y, me r' ωk = .ok y ω' ∧ o = some y) ∨ (k = false ∧ o = none ∧ ω' = ωk)) := by
  unfold cStepB Py.noexc at h
  cases hb : B (Py.wipeT r t) d ω with
  | stuck => rw [show (Py.bnd (B (Py.wipeT r t) d) (fun r' => Py.bnd (mt r') fun k => if k = true then Py.bnd (me r') fun y => Py.ret (some y) else Py.ret none)) ω = .stuck by unfold Py.bnd; rw [hb]] at h; cases h
  | exc x w => rw [show (Py.bnd (B (Py.wipeT r t) d) (fun r' => Py.bnd (mt r') fun k => if k = true then Py.bnd (me r') fun y => Py.ret (some y) else Py.ret none)) ω = .exc x w by unfold Py.bnd; rw [hb]] at h; cases h
  | ok r' w =>
    obtain rfl := hB1 _ _ _ _ _ hb
    have e0 : (Py.bnd (B (Py.wipeT r t) d) (fun r' => Py.bnd (mt r') fun k => if k = true then Py.bnd (me r') fun y => Py.ret (some y) else Py.ret none)) w = (Py.bnd (mt r') fun k => if k = true then Py.bnd (me r') fun y => Py.ret (some y) else Py.ret none) w := bndOk hb
    rw [e0] at h
    simp only [Py.bnd] at h
    cases hm : mt r' w with
    | stuck => rw [hm] at h; simp at h
    | exc x w => rw [hm] at h; simp at h
    | ok k ωk =>
      rw [hm] at h
      cases k with
      | false =>
        simp only [Bool.false_eq_true, if_false, Py.ret] at h
        cases h
        exact ⟨r', false, ω', rfl, hm, .inr ⟨rfl, rfl, rfl⟩⟩
      | true =>
        simp only [if_true, Py.bnd] at h
        cases hy : me r' ωk with
        | stuck => rw [hy] at h; simp at h
        | exc x w => rw [hy] at h; simp at h
        | ok y w =>
          rw [hy] at h
          simp only [Py.ret] at h
          cases h
          exact ⟨r', true, ωk, rfl, hm, .inl ⟨rfl, y, hy, rfl⟩⟩
/-- THE COMPREHENSION: from its data to the layer's reading -/
theorem comp_tB {B : Py.Env → Py.D → Py.M Py.Env} {G : TG} {t : Py.Tgt} {mi : Py.Env → Py.M (List Py.D)} {mt : Py.Env → Py.M Bool} {me : Py.Env → Py.M Py.D} {Q : VK} (hB1 : ∀ r x ω r' ω', B r x ω = .ok r' ω' → ω' = ω)
    (hB2 : ∀ {σ : L2.St} {r : Py.Env} {H : Hp} {Z : Addr → Prop} {η : List Addr} {ω : Py.Store} {v : V} {d : Py.D} {r' : Py.Env} {Q : L2.St → Hp → Prop}, c.still.Env σ r H Z η ω → c.Rep H Z η v d → B r d ω = .ok r' ω → (∀ σ', c.still.Env σ' r' H Z η ω → (∀ (i : Nat), i ∉ tgtIs t → σ'[i]? = σ[i]?) → σ'.length = σ.length → Q σ' H) → G v σ H Q) (h : tE c .frs (fun r => Py.bnd (mi r) fun xs => Py.bnd (Py.compM xs (cStepB B t mt me r)) fun ys => Py.ret (.lst ys)) σ H Q) : tLc (tI c false mi) G (tT c.still mt) (tE c.still .val me) (tgtIs t) σ H Q := by
  obtain ⟨Z, η, ω, r, e, h⟩ := h
  refine ⟨Z, η, ω, r, e, ?_⟩
  simp only [Py.bnd] at h
  cases hm : mi r ω with
  | stuck => rw [hm] at h; exact h
  | exc x ω' => rw [hm] at h; exact h
  | ok ds ω1 =>
    rw [hm] at h
    intro J H1 Z1 η1 n1 hit D hD
    obtain ⟨P, S, ok, hP⟩ := hit
    dsimp only at h
    have e1 := e.step n1.s n1.w
    have hDz := Ct.WI.znone n1.w hD
    have hSD : ¬ S D := fun z => ok.sd hP D z hD
    have hown := Ct.Env.ownNe e1 hD
    have h0D : c.H0 D = none := by
      cases q : c.H0 D with
      | none => rfl
      | some u => exact absurd hD (e1.s0.there D (by rw [q]; simp))
    cases hc : Py.compM ds (cStepB B t mt me r) ω1 with
    | stuck => rw [hc] at h; exact h.elim
    | exc x ω' => exact absurd hc compB_noexc
    | ok zs0 ωf0 =>
      rw [hc] at h
      replace h : ∀ v H' Z' η', c.Nx H Z η H' Z' η' ωf0 → ResR c .frs r σ H H' Z' η' v (.lst zs0) → Q v H' := h
      let Inv : Nat → Hp → Prop := fun i Hh => ∃ Z2 η2 ω2 acc ys zs, c.Env σ r Hh Z2 η2 ω2 ∧ Step H Z η Hh Z2 η2 ∧ P Hh Z2 η2 ∧ Hh D = some (.lst acc) ∧ c.RepL Hh Z2 η2 acc ys ∧ ¬ Z2 D ∧ D ∉ η2 ∧ acc.length ≤ i ∧
        Py.compM (ds.drop i) (cStepB B t mt me r) ω2 = .ok zs ωf0 ∧ ys ++ zs = zs0
      refine ⟨fun i m Hh => m = ds.length - i ∧ i ≤ ds.length ∧ Inv i Hh, ⟨ds.length, by simp, Nat.zero_le _, ?_⟩, ?_⟩
      · have e2 : c.Env σ r (upd H1 D (.lst [])) Z1 η1 ω1 := e1.step (.new hD) (Ct.WI.new n1.w hD)
        exact ⟨Z1, η1, ω1, [], [], zs0, e2, n1.s.trans (.new hD), ok.step hP n1.w (.new hD), upd_same, .nil, hDz.1, hDz.2, Nat.le_refl _, hc, rfl⟩
      · rintro i m Hh ⟨rfl, hi, Z2, η2, ω2, acc, ys, zs, e2, s2, p2, hacc, rl, nz, nη, hlen, hrun, hall⟩
        by_cases hlt : i < ds.length
        · have hd : ds[i]? = some ds[i] := List.getElem?_eq_getElem hlt
          rw [List.drop_eq_getElem_cons hlt] at hrun
          simp only [Py.compM, Py.bnd] at hrun
          obtain ⟨hgo, hy⟩ := ok.go p2 e2.w hd
          cases hst : cStepB B t mt me r ds[i] ω2 with
          | stuck => rw [hst] at hrun; simp at hrun
          | exc x w => rw [hst] at hrun; simp at hrun
          | ok o ω3 =>
            rw [hst] at hrun
            simp only at hrun
            cases hrest : Py.compM (ds.drop (i + 1)) (cStepB B t mt me r) ω3 with
            | stuck => rw [hrest] at hrun; simp at hrun
            | exc x w => rw [hrest] at hrun; simp at hrun
            | ok zs1 ω4 =>
              rw [hrest] at hrun
              simp only [Py.ret] at hrun
              obtain ⟨r', kk, ωk, hb, hmt, hcase⟩ := cStepB_ok hB1 hst
              refine .inr ⟨hgo, Inv (i + 1), fun H' p' => ⟨ds.length - (i + 1), by omega, rfl, hlt, p'⟩, fun x H' hyld => ?_⟩
              obtain ⟨s3, w3, rx⟩ := hy x H' hyld
              have e3 := e2.step s3 w3
              refine hB2 (show c.still.Env _ _ H' Z2 η2 ω2 from Ct.Env.wipe e3 t) rx hb fun σ' e4 hk hl => ⟨wipe_again (by rw [hl, wipe_length]) hk, ?_⟩
              refine ⟨Z2, η2, ω2, r', e4, ?_⟩
              rw [hmt]
              intro H3 Z3 η3 n3
              have e5 := e3.step n3.s n3.w
              have hacc3 : H3 D = some (.lst acc) := n3.s.keep _ _ (s3.keep _ _ hacc nη) nη
              have stepD : ∀ {Ha Hb : Hp} {Za Zb : Addr → Prop} {ηa ηb : List Addr}, Step Ha Za ηa Hb Zb ηb → Ha D ≠ none → ¬ Za D → D ∉ ηa → ¬ Zb D ∧ D ∉ ηb := fun {Ha Hb Za Zb ηa ηb} s hn hz hη => by
                refine ⟨fun z => ?_, fun m => ?_⟩
                · rcases s.nz D z with q | q
                  · exact hz q
                  · exact hn q
                · obtain ⟨l, rfl, hl⟩ := s.eta
                  rcases List.mem_append.mp m with q | q
                  · exact hη q
                  · exact hn (hl D q)
              have hH' : H' D = some (.lst acc) := s3.keep _ _ hacc nη
              obtain ⟨nz3, nη3⟩ := stepD n3.s (by rw [hH']; simp) nz nη
              have p3 := ok.step (ok.step p2 e2.w s3) w3 n3.s
              rcases hcase with ⟨rfl, y, hme, rfl⟩ | ⟨rfl, rfl, rfl⟩
              · rw [if_pos rfl]
                refine ⟨Z3, η3, ωk, r', e4.step n3.s n3.w, ?_⟩
                rw [hme]
                intro v H4 Z4 η4 n4 q4
                have hacc4 : H4 D = some (.lst acc) := n4.s.keep _ _ hacc3 nη3
                obtain ⟨nz4, nη4⟩ := stepD n4.s (by rw [hacc3]; simp) nz3 nη3
                have hz : acc.length < sizeLine := by
                  have := ok.len
                  rw [← lim_eq]
                  omega
                refine ⟨acc, hacc4, hz, ?_⟩
                have e6 := e5.step n4.s n4.w
                have s6 := ((s2.trans s3).trans n3.s).trans n4.s
                have hHD : H D = none := n1.none hD
                have p4 := ok.step p3 n3.w n4.s
                have rl4 := n4.s.repL n3.w (n3.s.repL w3 (s3.repL e2.w rl))
                refine ⟨Z4, η4, ω3, acc ++ [v], ys ++ [y], zs1, Ct.Env.write e6 hacc4 nz4 nη4 h0D hown, s6.write hacc4 hHD, ok.wr p4 hacc4 nz4 hSD, upd_same, ((rl4.append (.one q4)).write hacc4 nz4), nz4, nη4, by simp; omega, ?_, ?_⟩
                · simp only at hrun
                  cases hrun
                  exact hrest
                · simp only at hrun
                  cases hrun
                  rw [← hall]
                  simp
              · rw [if_neg (by decide)]
                refine ⟨Z3, η3, ω3, acc, ys, zs1, e5, (s2.trans s3).trans n3.s, p3, hacc3, n3.s.repL w3 (s3.repL e2.w rl), nz3, nη3, by omega, ?_, ?_⟩
                · simp only at hrun
                  cases hrun
                  exact hrest
                · simp only at hrun
                  cases hrun
                  exact hall
        · have hie : i = ds.length := by omega
          refine .inl ⟨ok.stop p2 (by omega), ?_⟩
          rw [hie, List.drop_length] at hrun
          simp only [Py.compM, Py.ret] at hrun
          cases hrun
          rw [List.append_nil] at hall
          subst hall
          exact h (.ref D) Hh Z2 η2 ⟨s2, e2.w⟩ (.inl ⟨D, acc, ys, rfl, rfl, n1.none hD, hacc, rl, nz, nη⟩)
theorem tE.le {m1 m2 : Py.Env → Py.M Py.D} {Q : VK} (hle : ∀ r ω, m1 r ω = .stuck ∨ m2 r ω = m1 r ω) (h : tE c k m1 σ H Q) : tE c k m2 σ H Q := by
  obtain ⟨Z, η, ω, r, e, h⟩ := h
  refine ⟨Z, η, ω, r, e, ?_⟩
  rcases hle r ω with q | q
  · rw [q] at h; exact h.elim
  · rw [q]; exact h
def bindL (is : List Nat) (r : Py.Env) (x : Py.D) : Py.M Py.Env := Py.bnd (Py.getL x) fun ys => Py.lif (Py.bindT r (.tp is) (.tup ys))
theorem getL_out {x : Py.D} {ω ω' : Py.Store} {xs : List Py.D} (h : Py.getL x ω = .ok xs ω') : ω' = ω ∧ ∃ n, x = .loc n ∧ ω[n]? = some (.lst xs) := by
  unfold Py.getL Py.bnd at h
  cases hr : Py.rdC x ω with
  | stuck => rw [hr] at h; cases h
  | exc y w => exact (rd_exc hr).elim
  | ok cl w =>
    rw [hr] at h
    obtain ⟨n, e1, e2, rfl⟩ := rd_some hr
    cases cl <;> first | (cases h; done) | skip
    cases h
    exact ⟨rfl, n, e1, e2⟩
theorem bindL_out {is : List Nat} {r r' : Py.Env} {x : Py.D} {ω ω' : Py.Store} (h : bindL is r x ω = .ok r' ω') : ω' = ω ∧ ∃ n ys, x = .loc n ∧ ω[n]? = some (.lst ys) ∧ Py.setAll r is ys = some r' := by
  unfold bindL at h
  cases hg : Py.getL x ω with
  | stuck => unfold Py.bnd at h; rw [hg] at h; cases h
  | exc y w => unfold Py.bnd at h; rw [hg] at h; cases h
  | ok ys w =>
    obtain ⟨rfl, n, h1, h2⟩ := getL_out hg
    rw [bndOk hg] at h
    simp only [Py.bindT] at h
    cases hs : Py.setAll r is ys with
    | none => rw [hs] at h; cases h
    | some r2 =>
      rw [hs] at h
      cases h
      exact ⟨rfl, n, ys, h1, h2, hs⟩
abbrev gAny (K : PySem.W.Frag) (is : List Nat) : TG := fun v σ H Q => gTup K is.length (gNs is) v σ H Q ∨ gLst K is.length (gNs is) v σ H Q
/-- [.. for x, .. in ..] over lists of the store -/
theorem jb_cmpL {elt tg iter : Expr} {scope : Scope} {own : List (Str × Nat)} {pos : Pos} {is : List Nat} {ma me : Py.Env → Py.M Py.D}
    (hc : c.X.calm = true) (hN : c.X.N.Nodup) (hi : JI c false tg iter (fun r => Py.bnd (ma r) fun x => Py.lif (Py.itD x))) (ok : BlkOk c.X.N c.X.env.scope scope own) (hown : own.map (·.2) = is)
    (hg : ∀ (s : Shared) (H : Hp) (C : Addr) (cl : List (Str × Addr)) (fp : List Addr), PG (c.X.blk s H scope (compEnvC scope cl C c.X.env) fp) tg (gAny c.X.K is))
    (ht : ∀ (s : Shared) (H : Hp) (C : Addr) (cl : List (Str × Addr)) (fp : List Addr), PTs (c.X.blk s H scope (compEnvC scope cl C c.X.env) fp) [] (tT c.still (fun _ => Py.ret true)))
    (he : ∀ (s : Shared) (H : Hp) (C : Addr) (cl : List (Str × Addr)) (fp : List Addr), PE (c.X.blk s H scope (compEnvC scope cl C c.X.env) fp) elt (tE c.still .val me)) (hs : ∀ x, foldedSetIterable iter c.X.env x = pure x) :
    JB c .frs (.ListComp elt [⟨tg, iter, [], 0⟩] scope pos) (fun r => Py.bnd (ma r) fun x => Py.bnd (Py.lif (Py.lstD x)) fun xs => Py.bnd (Py.compM xs fun x => Py.noexc (Py.bnd (Py.getL x) fun ys => Py.bnd (Py.lif (Py.bindT (Py.wipeT r (.tp is)) (.tp is) (.tup ys))) fun r' => Py.bnd (me r') fun y => Py.ret (some y))) fun ys => Py.ret (.lst ys)) := by
  refine JB.plain (.inr rfl) (PE.imp (pe_lc hc hN hi ok hg ht he hs) fun σ H Q h => ?_) (fun whole => rfl)
  rw [hown]
  refine comp_tB (B := bindL is) (t := .tp is) (mt := fun _ => Py.ret true) (fun r x ω r' ω' h => (bindL_out h).1) (fun {σ r H Z η ω v d r' Q} e q hb h => ?_) (tE.le (fun r ω => ?_) h)
  · obtain ⟨_, n, ys, rfl, hc, hs⟩ := bindL_out hb
    obtain ⟨a, vs, rfl, h1, h2, rl⟩ := loc_lst e.w (.of q) hc
    exact .inr ⟨_, _, rfl, .of h2, by rw [rl.length]; exact (setAll_len hs).symm, tus e rl hs h⟩
  · have e1 : ∀ r x, (Py.noexc (Py.bnd (Py.getL x) fun ys => Py.bnd (Py.lif (Py.bindT (Py.wipeT r (.tp is)) (.tp is) (.tup ys))) fun r' => Py.bnd (me r') fun y => Py.ret (some y))) = cStepB (bindL is) (.tp is) (fun _ => Py.ret true) me r x := fun r x => by
      unfold cStepB bindL
      rw [Py.bnd_bnd]
      rfl
    simp only [e1]
    rw [Py.bnd_bnd]
    unfold Py.bnd
    cases hm : ma r ω with
    | stuck => exact .inl rfl
    | exc x w => exact .inr rfl
    | ok d w =>
      cases hl : Py.lstD d with
      | none => left; simp only [hl]; rfl
      | some xs =>
        obtain rfl := lstD_some hl
        right
        simp only [Py.itD, Py.lstD]
end
end PyS
end
section
/-! what writes into the store -/
namespace PyS
open PySem PySem.Spec PyProof.Rows L2
section
variable {c : Ct} {k ka kb kc : Kd} {ks : List Kd} {σ : L2.St} {r : Py.Env} {H H1 H2 H' : Hp} {Z Z1 Z' : Addr → Prop} {η η1 η' : List Addr} {ω ω1 ω' : Py.Store} {D : Ends} {Q : VK} {v u : V} {d : Py.D} {p a : Addr} {o o' : HO} {cl cl' : Py.Cell} {n : Nat}
theorem post.mono {res : Py.Res Py.D} {Q' : VK} (h : post c k σ r H Z η Q res) (i : ∀ v H', Q v H' → Q' v H') : post c k σ r H Z η Q' res := by
  cases res with
  | stuck => exact h
  | exc x w => exact h
  | ok d w => exact fun v H' Z' η' n q => i _ _ (h v H' Z' η' n q)
/-- an operand, then the rest: all told from where one stands -/
theorem post.bnd {m : Py.M Py.D} {F : Py.D → Py.M Py.D} (en : c.Env σ r H Z η ω) (h : post c .val σ r H Z η Q (Py.bnd m F ω)) :
    post c .val σ r H Z η (fun v H' => ∃ Z' η' ω' d, c.Env σ r H' Z' η' ω' ∧ Step H Z η H' Z' η' ∧ c.Rep H' Z' η' v d ∧ post c .val σ r H' Z' η' Q (F d ω')) (m ω) := by
  unfold Py.bnd at h
  cases hm : m ω with
  | stuck => rw [hm] at h; exact h
  | exc x w => rw [hm] at h; exact h
  | ok d w =>
    rw [hm] at h
    exact fun v H' Z' η' n q => ⟨Z', η', w, d, en.step n.s n.w, n.s, q, post.rebase h n.s⟩
theorem bndInv {α β : Type} {m : Py.M α} {f : α → Py.M β} {w w' : Py.Store} {d : β} (h : Py.bnd m f w = .ok d w') : ∃ a w1, m w = .ok a w1 ∧ f a w1 = .ok d w' := by
  unfold Py.bnd at h
  cases hm : m w with
  | stuck => rw [hm] at h; cases h
  | exc x w => rw [hm] at h; cases h
  | ok a w1 => rw [hm] at h; exact ⟨a, w1, rfl, h⟩
theorem wr_non {x : Py.D} {q : Py.Cell} {w w' : Py.Store} (h : Py.wrC x q w = .ok d w') : d = .non := by
  cases x <;> first | (cases h; rfl) | cases h
def cellSet (o : Py.D) (y : Py.D) (d : Py.D) : Py.M Py.D := Py.bnd (Py.lif (Py.asInt y)) fun i => Py.bnd (Py.getL o) fun xs => Py.bnd (Py.lif (Py.ixN xs.length i)) fun k => Py.wrC o (.lst (xs.set k d))
theorem cell_non {x y e : Py.D} {w w' : Py.Store} (h : cellSet x y e w = .ok d w') : d = .non := by
  unfold cellSet at h
  obtain ⟨_, _, _, h1⟩ := bndInv h
  obtain ⟨_, _, _, h2⟩ := bndInv h1
  obtain ⟨_, _, _, h3⟩ := bndInv h2
  exact wr_non h3
/-- a list's item is written: behind its operands -/
theorem cell_set {f : Py.M Py.D} {o y e : Py.D} {x : V} (en : c.Env σ r H1 Z1 η1 ω1) (qo : c.Rep H1 Z1 η1 x o) (qy : c.Rep H1 Z1 η1 u y) (qv : c.Rep H1 Z1 η1 v e) (h : post c .val σ r H1 Z1 η1 Q (Py.bnd (cellSet o y e) (fun _ => f) ω1))
    {P : Hp → Prop} (hP : ∀ H' ω', c.Env σ r H' Z1 η1 ω' → Step H1 Z1 η1 H' Z1 η1 → post c .val σ r H' Z1 η1 Q (f ω') → P H') : ∃ p vs kk j, x = .ref p ∧ u = .int kk ∧ H1 p = some (.lst vs) ∧ L2.ixN vs.length kk = some j ∧ P (upd H1 p (.lst (vs.set j v))) := by
  unfold cellSet at h
  simp only [Py.bnd_bnd] at h
  obtain ⟨kk, hk, ha⟩ := lif_in h
  have ey := asInt_some hk
  rw [ey] at qy
  cases qy
  obtain ⟨n, xs, eo, hc, hb⟩ := getL_in ha
  rw [eo] at qo
  obtain ⟨a, vs, ex, h1, h2, h3⟩ := loc_lst en.w (.of qo) hc
  obtain ⟨j, hj, hd⟩ := lif_in hb
  obtain ⟨w2, s2⟩ := Ct.WI.wrC en.w h1 h2 (fun _ z => by cases z) (show CellR c.X.K c.fA H1 Z1 η1 (.lst (vs.set j v)) (.lst (xs.set j e)) from h3.set qv j)
  have e1 : Py.bnd (Py.wrC o (.lst (xs.set j e))) (fun _ => f) ω1 = f (ω1.set n (.lst (xs.set j e))) := by rw [eo]; rfl
  have hd : post c .val σ r H1 Z1 η1 Q (Py.bnd (Py.wrC o (.lst (xs.set j e))) (fun _ => f) ω1) := hd
  rw [e1] at hd
  exact ⟨a, vs, kk, j, ex, rfl, h2, by rw [h3.length]; exact hj, hP _ _ (en.step s2 w2) s2 (post.rebase hd s2)⟩
/-- a[..][i], a[..][j] = d, e -/
theorem js_setC2 {a1 a2 i1 i2 de ee : Expr} {p1 p2 pos tpos vpos : Pos} {kk k2 : Nat} {ma mi mj md me : Py.Env → Py.M Py.D} (hc : c.X.calm = true) (ha1 : JE c .val a1 ma) (ha2 : JE c .val a2 ma) (hi : JE c .val i1 mi) (hj : JE c .val i2 mj) (hd : JE c .val de md) (he : JE c .val ee me)
    (s1 : starEach [de, ee] c.X.env = (false, eval de c.X.env) :: starEach [ee] c.X.env) (s2 : starEach [ee] c.X.env = [(false, eval ee c.X.env)])
    (g1 : ∀ v, assign (.Subscript a1 i1 p1) c.X.env v = (do
      let ov ← holding [v] (eval a1 c.X.env)
      let iv ← holding [v, ov] (eval i1 c.X.env)
      standAt p1
      holding [v, ov, iv] (setItem ov iv v)
      release [v, ov, iv] []))
    (g2 : ∀ v, assign (.Subscript a2 i2 p2) c.X.env v = (do
      let ov ← holding [v] (eval a2 c.X.env)
      let iv ← holding [v, ov] (eval i2 c.X.env)
      standAt p2
      holding [v, ov, iv] (setItem ov iv v)
      release [v, ov, iv] []))
    (hn : (assignEach [.Subscript a1 i1 p1, .Subscript a2 i2 p2] c.X.env).length = 2) (hst : (assignEach [.Subscript a1 i1 p1, .Subscript a2 i2 p2] c.X.env).findIdx? (·.1) = none)
    (e1 : (assignEach [.Subscript a1 i1 p1, .Subscript a2 i2 p2] c.X.env).map (·.2) = assign (.Subscript a1 i1 p1) c.X.env :: (assignEach [.Subscript a2 i2 p2] c.X.env).map (·.2))
    (e2 : (assignEach [.Subscript a2 i2 p2] c.X.env).map (·.2) = assign (.Subscript a2 i2 p2) c.X.env :: (assignEach [] c.X.env).map (·.2))
    (hs : swapsWithSole [.Tuple [.Subscript a1 i1 p1, .Subscript a2 i2 p2] kk tpos] (.Tuple [de, ee] k2 vpos) pos.line c.X.env = pure false)
    (hw : swappedStores [.Tuple [.Subscript a1 i1 p1, .Subscript a2 i2 p2] kk tpos] (.Tuple [de, ee] k2 vpos) c.X.env = pure none) :
    JS c (.Assign [.Tuple [.Subscript a1 i1 p1, .Subscript a2 i2 p2] kk tpos] (.Tuple [de, ee] k2 vpos) pos)
      (fun r => Py.bndE r (Py.bnd (md r) fun d => Py.bnd (me r) fun e => Py.bnd (ma r) fun o => Py.bnd (mi r) fun y => Py.bnd (cellSet o y d) fun _ => Py.bnd (ma r) fun o => Py.bnd (mj r) fun y => cellSet o y e) fun _ => Py.nextS r) := by
  refine PS.imp (ps_asg (pe_tup (x1 := k2) (pos := vpos) (pa_cons hd (pa_cons he pa_nil s2) s1)) (pg_any hc (pgs_cons (pg_sub ha1 hi set_list g1) (pgs_cons (pg_sub ha2 hj set_list g2) pgs_nil e2) e1) hn hst) hs hw (by rfl)) fun D σ H h => ?_
  have h := tS.toE (k := .val) h
  refine tE.mono h.bnd fun v1 H1 hx => tE.mono hx.bnd fun v2 H2 ⟨Z, η, Z2, η2, ω2, r, d, e, en, s, qd, qe, h⟩ => ⟨by rw [sizeLine_eq]; show 2 ≤ _; decide, fun T hT => ?_⟩
  refine .inl ⟨T, [v1, v2], rfl, .of upd_same, rfl, v1, [v2], rfl, ?_⟩
  have st : Step H2 Z2 η2 (upd H2 T (.tup [v1, v2])) Z2 η2 := .new hT
  have en3 := en.step st (Ct.WI.new en.w hT)
  have qd3 := st.rep en.w (show c.Rep H2 Z2 η2 v1 d from qd)
  have qe3 := st.rep en.w (show c.Rep H2 Z2 η2 v2 e from qe)
  generalize upd H2 T (.tup [v1, v2]) = H3 at *
  have h3 : post c .val σ r H3 Z2 η2 (fun _ H1 => D.nx σ H1) (Py.bnd (ma r) (fun o => Py.bnd (mi r) fun y => Py.bnd (cellSet o y d) fun _ => Py.bnd (ma r) fun o => Py.bnd (mj r) fun y => cellSet o y e) ω2) := post.rebase h (s.trans st)
  refine ⟨Z2, η2, ω2, r, en3, (post.bnd en3 h3).mono fun x H4 ⟨Z4, η4, ω4, o4, en4, s4, q4, h4⟩ => ⟨Z4, η4, ω4, r, en4, (post.bnd en4 h4).mono fun y H5 ⟨Z5, η5, ω5, y5, en5, s5, q5, h5⟩ => ?_⟩⟩
  have st5 := s4.trans s5
  refine cell_set en5 (s5.rep en4.w q4) q5 (st5.rep en3.w qd3) h5 fun H6 ω6 en6 s6 h6 => ?_
  have qe6 := (st5.trans s6).rep en3.w qe3
  refine ⟨v2, [], rfl, Z5, η5, ω6, r, en6, (post.bnd en6 h6).mono fun x' H7 ⟨Z7, η7, ω7, o7, en7, s7, q7, h7⟩ => ⟨Z7, η7, ω7, r, en7, (post.bnd en7 h7).mono fun y' H8 ⟨Z8, η8, ω8, y8, en8, s8, q8, h8⟩ => ?_⟩⟩
  have h8' : post c .val σ r H8 Z8 η8 (fun _ H1 => D.nx σ H1) (Py.bnd (cellSet o7 y8 e) (fun _ => Py.ret .non) ω8) := by
    unfold Py.bnd
    cases hm : cellSet o7 y8 e ω8 with
    | stuck => rw [hm] at h8; exact h8
    | exc x w => rw [hm] at h8; exact h8
    | ok d' w =>
      rw [hm] at h8
      have := cell_non hm
      subst this
      exact h8
  refine cell_set en8 (s8.rep en7.w q7) q8 ((s7.trans s8).rep en6.w qe6) h8' fun H9 ω9 en9 s9 h9 => ?_
  exact ⟨rfl, h9 .non H9 Z8 η8 ⟨.refl, en9.w⟩ .non⟩
end
end PyS
end
section
namespace PyS
open PySem PySem.Spec PyProof.Rows L2
/-! ### the text against the compact syntax -/
structure Tb where
  N : List Str
  fs : Nat → Option (Str × Nat)
  gs : Nat → Option Str
  cs : Nat → Option Str
  cn : List Nat
  bl : List Str
  sub : Nat → Nat → Bool
def Tb.cid (T : Tb) (x : Str) : Nat := (T.cn.find? fun n => decide (T.cs n = some x)).getD 0
structure Sc where
  sc : Scope
  fn : Str → Bool
  calm : Bool
  top : Bool
  hot : Option Nat
structure Fine (c : Ct) (T : Tb) (L : Py.Lk) (S : Sc) : Prop where
  sc : c.X.env.scope = S.sc
  N : c.X.N = T.N
  nd : T.N.Nodup
  fn : c.X.fn = S.fn
  un : c.X.A.units + 65 < cLine
  po : PassesOwn (model c.X.prog c.X.w) c.X.A c.X.env c.X.xe
  tk : Takes c.X c.W
  calm : S.calm = true → c.X.calm = true ∧ c.xa = none
  bl : ∀ x ∈ T.bl, c.X.mg x = none
  df : ∀ i x n, T.fs i = some (x, n) → ∃ a, c.fA.f i = some a ∧ c.X.mg x = some (.ref a) ∧ (S.calm = true → FnAt c L.φ i a n)
  fa : ∀ i a, c.fA.f i = some a → ∃ x n, T.fs i = some (x, n) ∧ c.X.mg x = some (.ref a)
  ln : ∀ i x n ds ω, T.fs i = some (x, n) → ds.length ≠ n → L.φ i ds ω = .stuck
  gl : ∀ i x, T.gs i = some x → ∃ v u, c.X.mg x = some u ∧ RelV v u ∧ ∀ H Z η, c.Rep H Z η v (L.g i)
  cl : ∀ n x, T.cs n = some x → ∃ a, c.eA n = some a ∧ c.X.mg x = some (.ref a) ∧ PySem.W.excIn c.X.K a He.veBase "ValueError.__new__" = true ∧ PySem.W.keepIn c.X.K (.ref a) = true ∧ PySem.W.subIn c.X.K (.ref a) (.type "BaseException") = some true ∧ PySem.W.typeIn c.X.K (.ref a) = some (.type "type")
  sub : ∀ n m a b, c.eA n = some a → c.eA m = some b → PySem.W.kitOne c.X.K (.ref a) (.ref b) = some (L.sub n m) ∧ PySem.W.exmOne c.X.K (.ref a) (.ref b) = some (L.sub n m)
  ec : ∀ n a, c.eA n = some a → ExcC c.X.K a
  eb : ∀ n a, c.eA n = some a → n ∈ T.cn
  top : S.top = true → c.X.stack = c.X.env :: c.X.outer ∧ c.X.env.frame = some c.X.env.locals
  hot : ∀ i, S.hot = some i → ∃ a n D0, c.xa = some (i, a, n) ∧ c.eA n = some D0 ∧ CallR c.X (.builtin "isinstance") (rIsE c.X.K D0 a)
  kind : S.sc.kind = .function
  sb : L.sub = T.sub
  th : S.top = true → S.hot = none

def okNm (x : Str) : Bool := !(x == ("__debug__" : Str)) && !(x == ("__classdict__" : Str))
def glB (S : Sc) (x : Str) : Bool := decide (S.sc.names.lookup x = some .globalImplicit) && !(x == ("__debug__" : Str))
def visB (S : Sc) (x : Str) : Bool := match S.sc.names.lookup x with
  | some .local => true
  | some .cell => true
  | some .free => true
  | _ => false
def locB (S : Sc) (x : Str) : Bool := match S.sc.names.lookup x with
  | some .local => true
  | some .cell => S.fn x
  | _ => false
def nmB (T : Tb) (S : Sc) (i : Nat) (x : Str) : Bool := decide (T.N[i]? = some x) && (visB S x && okNm x)
def tgB (T : Tb) (S : Sc) (i : Nat) (x : Str) : Bool := decide (T.N[i]? = some x) && locB S x
def notStar : Expr → Bool
  | .Starred .. => false
  | _ => true
def notSet : Expr → Bool
  | .Set .. => false
  | _ => true
def notComp : Expr → Bool
  | .ListComp .. => false
  | .SetComp .. => false
  | .DictComp .. => false
  | _ => true
def notSlice : Expr → Bool
  | .Slice .. => false
  | _ => true
def notCall : Expr → Bool
  | .Call .. => false
  | _ => true
section
variable {c : Ct} {T : Tb} {L : Py.Lk} {S : Sc} {x : Str} {i : Nat} {e : Expr} {es : List Expr} {env : PySem.Env}
theorem ba {a b : Bool} (h : (a && b) = true) : a = true ∧ b = true := Bool.and_eq_true_iff.mp h
theorem nb {a : Bool} (h : (!a) = true) : a = false := by cases a <;> first | rfl | cases h
theorem star_cons (h : notStar e = true) : starEach (e :: es) env = (false, eval e env) :: starEach es env := by cases e <;> first | rfl | cases h
theorem star_one (h : notStar e = true) : starEach [e] env = [(false, eval e env)] := star_cons h
theorem star_any {pos : Pos} : ∀ {es : List Expr}, es.all notStar = true → (backTo pos (starEach es env)).any (·.1) = false
  | [], _ => rfl
  | e :: es, h => by
    obtain ⟨h1, h2⟩ := ba (show (notStar e && es.all notStar) = true from h)
    rw [star_cons h1]
    show (false || (backTo pos (starEach es env)).any (·.1)) = false
    rw [star_any h2]
    rfl
theorem set_marks {op : CmpOp} (h : notSet e = true) : behindInMarks op e = false := by cases e <;> first | rfl | cases h
theorem set_fold (h : notSet e = true) : ∀ x, foldedSetIterable e env x = pure x := by cases e <;> first | exact fun _ => rfl | cases h
theorem comp_swaps {t : Option Expr} {l : Nat} (h : notComp e = true) : swapsWith e t l env = pure false := by cases e <;> first | rfl | cases h
theorem slice_plain (h : notSlice e = true) : PlainIx e := by cases e <;> first | exact fun _ _ => rfl | cases h
theorem call_base {n : Str} {w : Sem Value} (h : notCall e = true) : attributeBase e n env w = w := by cases e <;> first | rfl | cases h
theorem assign_each {t : Expr} {ts : List Expr} (h : notStar t = true) : assignEach (t :: ts) env = (false, assign t env) :: assignEach ts env := by cases t <;> first | rfl | cases h
theorem Fine.lk (F : Fine c T L S) (x : Str) : c.X.env.kindOf x = S.sc.names.lookup x := by
  show c.X.env.scope.names.lookup x = _
  rw [F.sc]
theorem Fine.glB (F : Fine c T L S) (h : glB S x = true) : Gl c.X x ∧ (x == ("__debug__" : Str)) = false := by
  obtain ⟨h1, h2⟩ := ba h
  exact ⟨(F.lk x).trans (of_decide_eq_true h1), nb h2⟩
theorem Fine.nmB (F : Fine c T L S) (h : nmB T S i x = true) : c.X.N[i]? = some x ∧ Vis c.X.env.scope x ∧ (x == ("__debug__" : Str)) = false ∧ (x == ("__classdict__" : Str)) = false := by
  obtain ⟨h1, h⟩ := ba h
  obtain ⟨h2, h3⟩ := ba h
  obtain ⟨h3, h4⟩ := ba h3
  refine ⟨by rw [F.N]; exact of_decide_eq_true h1, ?_, nb h3, nb h4⟩
  unfold visB at h2
  unfold Vis
  rw [F.sc]
  split at h2 <;> rename_i h <;> first | exact .inl h | exact .inr (.inl h) | exact .inr (.inr h) | cases h2
theorem Fine.tgB (F : Fine c T L S) (h : tgB T S i x = true) : c.X.N[i]? = some x ∧ Loc c.X.env.scope x ∧ (c.X.fn x = true ∨ c.X.env.scope.names.lookup x = some .local) := by
  obtain ⟨h1, h2⟩ := ba h
  refine ⟨by rw [F.N]; exact of_decide_eq_true h1, ?_⟩
  unfold locB at h2
  unfold L2.Loc
  rw [F.sc, F.fn]
  split at h2 <;> rename_i h <;> first | exact ⟨.inl h, .inr h⟩ | exact ⟨.inr h, .inl h2⟩ | cases h2
theorem Fine.ndX (F : Fine c T L S) : c.X.N.Nodup := by rw [F.N]; exact F.nd
end
/-! ### comprehensions' scopes -/
def relS (scope sc : Scope) : Scope := { scope with names := scope.names.map fun (n, k) => if (k == .free && sc.kind == .function && sc.names.lookup n == some .cell) then (n, .cell) else (n, k) }
theorem relS_eq (scope : Scope) (env : PySem.Env) : relabel scope env = relS scope env.scope := rfl
def ownOf (T : Tb) (t : Py.Tgt) : List (Str × Nat) := (tgtIs t).map fun i => (T.N.getD i default, i)
def blkB (T : Tb) (S : Sc) (scope : Scope) (t : Py.Tgt) : Bool :=
  decide (scope.kind = .function) && (scope.names.all (fun y => decide (scope.names.lookup y.1 = some y.2)) && ((ownOf T t).all (fun p => decide (T.N[p.2]? = some p.1)) &&
    (scope.names.all (fun y => !decide (y.2 = .free) || (decide (S.sc.names.lookup y.1 = some .cell) || decide (S.sc.names.lookup y.1 = some .free))) &&
      scope.names.all (fun y => !(decide (y.2 = .local) || decide (y.2 = .cell)) || (((ownOf T t).map (·.1)).contains y.1 || !T.N.contains y.1)))))
theorem own_is (T : Tb) (t : Py.Tgt) : (ownOf T t).map (·.2) = tgtIs t := by simp [ownOf, Function.comp_def]
theorem blk_ok {c : Ct} {T : Tb} {L : Py.Lk} {S : Sc} (F : Fine c T L S) {scope : Scope} {t : Py.Tgt} (h : blkB T S scope t = true) : BlkOk c.X.N c.X.env.scope scope (ownOf T t) := by
  obtain ⟨h1, h⟩ := ba h
  obtain ⟨h2, h⟩ := ba h
  obtain ⟨h3, h⟩ := ba h
  obtain ⟨h4, h5⟩ := ba h
  rw [List.all_eq_true] at h2 h3 h4 h5
  rw [F.N, F.sc]
  refine ⟨of_decide_eq_true h1, fun y hy => of_decide_eq_true (h2 y hy), fun p hp => of_decide_eq_true (h3 p hp), fun y hy e => ?_, fun y hy e => ?_⟩
  · have := h4 y hy
    simp only [e, decide_true, Bool.not_true, Bool.false_or, Bool.or_eq_true, decide_eq_true_eq] at this
    exact this
  · have := h5 y hy
    simp only [Bool.or_eq_true, Bool.not_eq_true', Bool.or_eq_false_iff, decide_eq_false_iff_not, List.contains_iff_mem] at this
    rcases this with h | h | h
    · rcases e with e | e
      · exact absurd e h.1
      · exact absurd e h.2
    · exact .inl h
    · right
      intro hm
      have h2 : T.N.contains y.1 = true := List.contains_iff_mem.mpr hm
      rw [h] at h2
      cases h2
def Sc.blk (S : Sc) (scope : Scope) : Sc := ⟨relS scope S.sc, fun x => scope.names.lookup x == some .cell, true, false, none⟩
theorem Fine.blk {c : Ct} {T : Tb} {L : Py.Lk} {S : Sc} (F : Fine c T L S) (hS : S.calm = true) {scope : Scope} (hk : scope.kind = .function) (s : Shared) (H : Hp) (C : Addr) (cl : List (Str × Addr)) (fp : List Addr) :
    Fine { c.still with X := c.X.blk s H scope (compEnvC scope cl C c.X.env) fp } T L (S.blk scope) where
  sc := by show relabel scope c.X.env = _; rw [relS_eq, F.sc]; rfl
  N := F.N
  nd := F.nd
  fn := rfl
  un := F.un
  po := PassesOwn.never
  tk := takes0
  calm := fun _ => F.calm hS
  bl := F.bl
  df := fun i x n h => let ⟨a, h1, h2, h3⟩ := F.df i x n h; ⟨a, h1, h2, fun _ => ⟨(h3 hS).ok, (h3 hS).kp⟩⟩
  fa := F.fa
  ln := F.ln
  gl := F.gl
  cl := F.cl
  sub := F.sub
  ec := F.ec
  eb := F.eb
  top := fun h => by cases h
  hot := fun i h => by cases h
  kind := hk
  sb := F.sb
  th := fun h => by cases h
end PyS
end
section
namespace PyS
open PySem PySem.Spec PyProof.Rows L2
def bltNm : Py.Blt → Option String
  | .len => some "len" | .abs => some "abs" | .max2 => some "max" | .min2 => some "min" | .sum => some "sum" | .any => some "any" | .all => some "all"
  | .sortedI => some "sorted" | .max1I => some "max" | .min1I => some "min" | .tuple => some "tuple" | .list => some "list" | .sorted => some "sorted" | .max1 => some "max" | .min1 => some "min" | .sortedN => some "sorted"
  | _ => none
theorem blt_ok {c : Ct} {b : Py.Blt} {nm : String} (hb : bltNm b = some nm) (hc : c.X.calm = true) (hu : c.X.A.units + 65 < cLine) :
    (∃ id, CallS c (.builtin id) (Py.bltD b) ∧ bootBuiltins (Str.ofString nm) = some (.builtin id)) ∨ (∃ id, CallS c (.type id) (Py.bltD b) ∧ bootBuiltins (Str.ofString nm) = some (.type id)) := by
  cases b <;> cases hb
  case len => exact .inl ⟨_, cs_len, rfl⟩
  case abs => exact .inl ⟨_, cs_abs, rfl⟩
  case max2 => exact .inl ⟨_, cs_max2 hc, rfl⟩
  case min2 => exact .inl ⟨_, cs_min2 hc, rfl⟩
  case sum => exact .inl ⟨_, cs_sum hc, rfl⟩
  case any => exact .inl ⟨_, cs_any hc, rfl⟩
  case all => exact .inl ⟨_, cs_all hc, rfl⟩
  case sortedI => exact .inl ⟨_, cs_sortedI, rfl⟩
  case max1I => exact .inl ⟨_, cs_max1I hc, rfl⟩
  case min1I => exact .inl ⟨_, cs_min1I hc, rfl⟩
  case sorted => exact .inl ⟨_, cs_sorted, rfl⟩
  case max1 => exact .inl ⟨_, cs_max1 hc hu, rfl⟩
  case min1 => exact .inl ⟨_, cs_min1 hc hu, rfl⟩
  case sortedN => exact .inl ⟨_, cs_sortedN hu, rfl⟩
  case tuple => exact .inr ⟨_, cs_tuple, rfl⟩
  case list => exact .inr ⟨_, cs_list, rfl⟩
/-- how the value of an expression stands -/
def kd : Py.E → Kd
  | .peek i => .pk i
  | .bin .. => .frs
  | .slL .. => .frs
  | .slH .. => .frs
  | .slB .. => .frs
  | .lst .. => .frs
  | .rev .. => .frs
  | .cmp0 .. => .frs
  | .cmpi .. => .frs
  | .cmpL .. => .frs
  | .tupC .. => .frs
  | .lstC .. => .frs
  | .blt .. => .frs
  | .b1 .. => .frs
  | .b2 .. => .frs
  | .ite _ a b => (match kd a, kd b with
    | .frs, .frs => .frs
    | _, _ => .val)
  | _ => .val
def isPk : Kd → Bool
  | .pk _ => true
  | _ => false
def noPk (e : Py.E) : Bool := !isPk (kd e)
def isFrs (e : Py.E) : Bool := match kd e with
  | .frs => true
  | _ => false
theorem frs_is {e : Py.E} (h : isFrs e = true) : kd e = .frs := by
  unfold isFrs at h
  cases hk : kd e <;> rw [hk] at h <;> first | rfl | cases h
def Es.all : Py.Es → Bool
  | .nil => true
  | .cons e r => noPk e && Es.all r
def kds : Py.Es → List Kd
  | .nil => []
  | .cons e r => kd e :: kds r
def Es.len : Py.Es → Nat
  | .nil => 0
  | .cons _ r => Es.len r + 1
def mC : Py.D → Expr → Bool
  | .int i, .Constant (.int j) _ _ => decide (i = j)
  | .bl b, .Constant (.bool k) _ _ => decide (b = k)
  | .non, .Constant .none _ _ => true
  | .str cs, .Constant (.str x) _ _ => decide (x.cps.toList = cs) && cs.all fun c => decide (c < 1114112)
  | _, _ => false
def isCst : Py.D → Expr → Bool
  | .non, .Constant .none _ _ => true
  | .bl b, .Constant (.bool k) _ _ => decide (b = k)
  | _, _ => false
def mTgs (T : Tb) (S : Sc) : List Nat → List Expr → Bool
  | [], [] => true
  | i :: is, .Name x _ :: es => tgB T S i x && mTgs T S is es
  | _, _ => false
def mTgt (T : Tb) (S : Sc) : Py.Tgt → Expr → Bool
  | .nm i, .Name x _ => tgB T S i x
  | .tp is, .Tuple es _ _ => S.calm && mTgs T S is es
  | _, _ => false
/-- a call of a name: the arguments -/
def mNm (S : Sc) (x : Str) (f : Str) : Bool := decide (x = f) && glB S x
mutual
def mE (T : Tb) : Py.E → Sc → Expr → Bool
  | .cst d, S, x => mC d x
  | .var i, S, x => (match x with
    | .Name n _ => nmB T S i n
    | _ => false)
  | .peek i, S, x => (match x with
    | .Name n _ => nmB T S i n
    | _ => false)
  | .glb i, S, x => (match x with
    | .Name n _ => decide (T.gs i = some n) && glB S n
    | _ => false)
  | .fnv i, S, x => (match x with
    | .Name n _ => decide ((T.fs i).map (·.1) = some n) && glB S n
    | _ => false)
  | .bin o a b, S, x => (match x with
    | .BinOp l op r _ => decide (op = opOf o) && (mE T a S l && mE T b S r)
    | _ => false)
  | .neg a, S, x => (match x with
    | .UnaryOp .USub e _ => mE T a S e
    | _ => false)
  | .not a, S, x => (match x with
    | .UnaryOp .Not e _ => noPk a && mE T a S e
    | _ => false)
  | .and a b, S, x => (match x with
    | .BoolOp .And [e, f] _ => noPk a && (noPk b && (mE T a S e && mE T b S f))
    | .BoolOp .And (e :: f :: g :: r) p => noPk a && (mE T a S e && mE T b S (.BoolOp .And (f :: g :: r) p))
    | _ => false)
  | .or a b, S, x => (match x with
    | .BoolOp .Or [e, f] _ => noPk a && (noPk b && (mE T a S e && mE T b S f))
    | .BoolOp .Or (e :: f :: g :: r) p => noPk a && (mE T a S e && mE T b S (.BoolOp .Or (f :: g :: r) p))
    | _ => false)
  | .cmp o a b, S, x => (match x with
    | .Compare l [op] [r] _ => decide (op = copOf o) && (notSet r && (mE T a S l && mE T b S r))
    | _ => false)
  | .cmp2 o o' a b d, S, x => (match x with
    | .Compare l [op, op'] [r, q] _ => decide (op = copOf o) && (decide (op' = copOf o') && (notSet q && (mE T a S l && (mE T b S r && mE T d S q))))
    | _ => false)
  | .cmp3 o o' o'' a b d f, S, x => (match x with
    | .Compare l [op, op', op''] [r, q, u] _ => decide (op = copOf o) && (decide (op' = copOf o') && (decide (op'' = copOf o'') && (notSet u && (mE T a S l && (mE T b S r && (mE T d S q && mE T f S u))))))
    | _ => false)
  | .isC n a d, S, x => (match x with
    | .Compare l [op] [r] _ => decide (op = if n = true then .IsNot else .Is) && (isCst d r && mE T a S l)
    | _ => false)
  | .ite q a b, S, x => (match x with
    | .IfExp t l r _ => noPk q && (noPk a && (noPk b && (mE T q S t && (mE T a S l && mE T b S r))))
    | _ => false)
  | .call f es, S, x => (match x with
    | .Call (.Name n _) args [] _ => S.calm && (decide (T.fs f = some (n, args.length)) && (glB S n && (args.all notStar && (Es.all es && mEs T es S args))))
    | _ => false)
  | .calv f es, S, x => (match x with
    | .Call (.Subscript u v p) (e :: r) [] _ => S.calm && (noPk f && (mE T f S (.Subscript u v p) && (notStar e && (r.all notStar && (Es.all es && mEs T es S (e :: r))))))
    | _ => false)
  | .blt b es, S, x => (match x with
    | .Call (.Name n _) (e :: r) [] _ => (match bltNm b with
      | some nm => S.calm && (mNm S n (Str.ofString nm) && (decide (n ≠ "__name__") && (T.bl.contains n && (notStar e && (r.all notStar && mEs T es S (e :: r))))))
      | none => false)
    | _ => false)
  | .b1 b a, S, x => (match b with
    | .ssetI => (match x with
      | .Call (.Name n _) [.Call (.Name n2 _) [e] [] _] [] _ => S.calm && (mNm S n "sorted" && (T.bl.contains n && (mNm S n2 "set" && (T.bl.contains n2 && (notStar e && mE T a S e)))))
      | _ => false)
    | .lrng1 => (match x with
      | .Call (.Name n _) [.Call (.Name n2 _) [e] [] _] [] _ => S.calm && (mNm S n "list" && (T.bl.contains n && (mNm S n2 "range" && (T.bl.contains n2 && (notStar e && mE T a S e)))))
      | _ => false)
    | _ => false)
  | .b2 b a d, S, x => (match b with
    | .lrng2 => (match x with
      | .Call (.Name n _) [.Call (.Name n2 _) [e, f] [] _] [] _ => S.calm && (mNm S n "list" && (T.bl.contains n && (mNm S n2 "range" && (T.bl.contains n2 && (notStar e && (notStar f && (mE T a S e && mE T d S f)))))))
      | _ => false)
    | _ => false)
  | .sidx cs b, S, x => (match x with
    | .Call (.Attribute (.Constant (.str y) j p0) n apos) [e] [] cpos => decide (n = "index") && (decide (apos.endLine = cpos.line) && (decide (y.cps.toList = cs) && ((cs.all fun c => decide (c < 1114112)) && (sidxOk cs && (notStar e && mE T b S e)))))
    | _ => false)
  | .idx a b, S, x => (match x with
    | .Call (.Attribute o n apos) [e] [] cpos => decide (n = "index") && (decide (apos.endLine = cpos.line) && (notCall o && (notStar e && (mE T a S o && mE T b S e))))
    | _ => false)
  | .cnt a b, S, x => false
  | .isi a t, S, x => (match x with
    | .Call (.Name n _) [e, .Name m _] [] _ => mNm S n "isinstance" && (mNm S m (Str.ofString (tyName t)) && (T.bl.contains n && (T.bl.contains m && (notStar e && mE T a S e))))
    | _ => false)
  | .ise i k, S, x => (match x with
    | .Call (.Name n _) [.Name y _, .Name m _] [] _ => mNm S n "isinstance" && (T.bl.contains n && (decide (S.hot = some i) && (nmB T S i y && (glB S m && decide (T.cs k = some m)))))
    | _ => false)
  | .sub a b, S, x => (match x with
    | .Subscript u v _ => notSlice v && (mE T a S u && mE T b S v)
    | _ => false)
  | .slL a b, S, x => (match x with
    | .Subscript u (.Slice (some lo) none none _) _ => mE T a S u && mE T b S lo
    | _ => false)
  | .slH a b, S, x => (match x with
    | .Subscript u (.Slice none (some hi) none _) _ => mE T a S u && mE T b S hi
    | _ => false)
  | .slB a b d, S, x => (match x with
    | .Subscript u (.Slice (some lo) (some hi) none _) _ => mE T a S u && (mE T b S lo && mE T d S hi)
    | _ => false)
  | .rev a, S, x => (match x with
    | .Subscript l (.Slice none none (some (.UnaryOp .USub (.Constant (.int i) _ _) _)) _) _ => decide (i = 1) && mE T a S l
    | _ => false)
  | .tup es, S, x => (match x with
    | .Tuple xs _ _ => decide (xs.length ≤ 1000) && (Es.all es && mEs T es S xs)
    | _ => false)
  | .lst es, S, x => (match x with
    | .List xs _ => decide (xs.length ≤ 1000) && (Es.all es && mEs T es S xs)
    | _ => false)
  | .stk, S, x => false
  | .cell a, S, x => (match x with
    | .List xs p => isFrs a && mE T a S (.List xs p)
    | _ => false)
  | .subC a b, S, x => (match x with
    | .Subscript u v _ => notSlice v && (mE T a S u && mE T b S v)
    | _ => false)
  | .cmpC o a b, S, x => (match x with
    | .Compare l [op] [r] _ => decide (op = copOf o) && (notSet r && (mE T a S l && mE T b S r))
    | _ => false)
  | .isE n a, S, x => (match x with
    | .Compare l [op] [.List [] _] _ => decide (op = if n then CmpOp.NotEq else CmpOp.Eq) && mE T a S l
    | _ => false)
  | .tupC a, S, x => (match x with
    | .Call (.Name n _) [e] [] _ => mNm S n "tuple" && (T.bl.contains n && (notStar e && mE T a S e))
    | _ => false)
  | .lstC a, S, x => (match x with
    | .Call (.Name n _) [e] [] _ => mNm S n "list" && (T.bl.contains n && (notStar e && mE T a S e))
    | _ => false)
  | .appC a e, S, x => (match x with
    | .Call (.Attribute o n apos) [v] [] cpos => decide (n = "append") && (decide (apos.endLine = cpos.line) && (notCall o && (notStar v && (noPk a && (noPk e && (mE T a S o && mE T e S v))))))
    | _ => false)
  | .newD, S, x => (match x with
    | .Dict [] [] _ => true
    | _ => false)
  | .getD a k e, S, x => (match x with
    | .Call (.Attribute o n apos) [u, v] [] cpos => decide (n = "get") && (decide (apos.endLine = cpos.line) && (notCall o && (notStar u && (notStar v && (noPk a && (noPk k && (noPk e && (mE T a S o && (mE T k S u && mE T e S v)))))))))
    | _ => false)
  | .cmpL is a e, S, x => (match x with
    | .ListComp elt [⟨.Tuple tgs kt tp, iter, [], 0⟩] scope _ => S.calm && (blkB T S scope (.tp is) && (mTgs T (S.blk scope) is tgs && (notSet iter && (mE T a S iter && (noPk e && mE T e (S.blk scope) elt)))))
    | _ => false)
  | .newI c es, S, x => false
  | .fld a x, S, _ => false
  | .meth c x a es, S, _ => false
  | .popC a, S, x => false
  | .insC a i e, S, x => false
  | .isiC a t, S, x => false
  | .isO a c, S, x => false
  | .lenO c x a, S, _ => false
  | .eqO n c x a b, S, _ => false
  | .cmpS o a b, S, x => false
  | .callF f es, S, x => false
  | .methF c x a es, S, _ => false
  | .cmp0 t it e, S, x => (match x with
    | .ListComp elt [⟨tg, iter, [], 0⟩] scope _ => S.calm && (blkB T S scope t && (mTgt T (S.blk scope) t tg && (notSet iter && (mI T it S tg iter && (noPk e && mE T e (S.blk scope) elt)))))
    | _ => false)
  | .cmpi t it k e, S, x => (match x with
    | .ListComp elt [⟨tg, iter, [cd], 0⟩] scope _ => S.calm && (blkB T S scope t && (mTgt T (S.blk scope) t tg && (notSet iter && (mI T it S tg iter && (noPk e && (mE T e (S.blk scope) elt && (noPk k && mE T k (S.blk scope) cd)))))))
    | _ => false)
def mEs (T : Tb) : Py.Es → Sc → List Expr → Bool
  | .nil, S, xs => (match xs with
    | [] => true
    | _ => false)
  | .cons e r, S, xs => (match xs with
    | x :: xs => notStar x && (mE T e S x && mEs T r S xs)
    | [] => false)
def mI (T : Tb) : Py.It → Sc → Expr → Expr → Bool
  | .seq a, S, tg, x => mE T a S x
  | .rng1 a, S, tg, x => (match x with
    | .Call (.Name n _) [e] [] _ => mNm S n "range" && (T.bl.contains n && (notStar e && mE T a S e))
    | _ => false)
  | .rng2 a b, S, tg, x => (match x with
    | .Call (.Name n _) [e, f] [] _ => mNm S n "range" && (T.bl.contains n && (notStar e && (notStar f && (mE T a S e && mE T b S f))))
    | _ => false)
  | .zip a b, S, tg, x => (match tg, x with
    | .Tuple _ _ _, .Call (.Name n _) [e, f] [] _ => mNm S n "zip" && (T.bl.contains n && (notStar e && (notStar f && (mE T a S e && mE T b S f))))
    | _, _ => false)
  | .enum a, S, tg, x => (match tg, x with
    | .Tuple _ _ _, .Call (.Name n _) [e] [] _ => mNm S n "enumerate" && (T.bl.contains n && (notStar e && mE T a S e))
    | _, _ => false)
end
/-- what is walked by a for: nothing that the suite's owner may write -/
def fzI : Py.It → Bool
  | .seq a => noPk a
  | .zip a b => noPk a && noPk b
  | .enum a => noPk a
  | _ => true
end PyS
end
section
namespace PyS
open PySem PySem.Spec PyProof.Rows L2
structure G (c : Ct) (k : Kd) (x : Expr) (m : Py.Env → Py.M Py.D) : Prop where
  je : JE c k x m
  jb : isPk k = false → JB c k x m
  jw : ∀ op es pos, x = .BoolOp op es pos → JW c op es m
def notBool : Expr → Bool
  | .BoolOp .. => false
  | _ => true
section
variable {c : Ct} {T : Tb} {L : Py.Lk} {S : Sc} {x : Expr} {m : Py.Env → Py.M Py.D} {k k' : Kd}
theorem G.of (h : JB c k x m) (hn : notBool x = true) : G c k x m := ⟨h.je, fun _ => h, fun op es pos e => by subst e; cases hn⟩
theorem G.val (h : G c k x m) (hk : isPk k = false) : JB c .val x m := by
  cases k with
  | val => exact h.jb hk
  | frs => exact (h.jb hk).weaken
  | pk i => cases hk
def Fits (k k' : Kd) : Prop := k' = k ∨ (k = .frs ∧ k' = .val)
theorem G.at (h : G c k x m) (hk : Fits k k') : JE c k' x m := by
  rcases hk with rfl | ⟨rfl, rfl⟩
  · exact h.je
  · exact h.je.weaken
def fits : Py.Es → List Kd → Prop
  | .nil, [] => True
  | .cons e r, k :: ks => Fits (kd e) k ∧ fits r ks
  | _, _ => False
theorem fits_kds : ∀ es, fits es (kds es)
  | .nil => trivial
  | .cons e r => ⟨.inl rfl, fits_kds r⟩
theorem fits_vals : ∀ {es}, Es.all es = true → fits es (vals (Es.len es))
  | .nil, _ => trivial
  | .cons e r, h => by
    obtain ⟨h1, h2⟩ := ba h
    refine ⟨?_, fits_vals h2⟩
    unfold noPk at h1
    cases hk : kd e with
    | val => exact .inl rfl
    | frs => exact .inr ⟨rfl, rfl⟩
    | pk i => rw [hk] at h1; cases h1
theorem opk_of {fz : Bool} {e : Py.E} (h : fz = true → noPk e = true) : ∃ k, Fits (kd e) k ∧ OpK fz k := by
  cases hk : kd e with
  | val => exact ⟨.val, .inl rfl, .inl rfl⟩
  | frs => exact ⟨.val, .inr ⟨rfl, rfl⟩, .inl rfl⟩
  | pk i =>
    refine ⟨.pk i, .inl rfl, .inr ⟨?_, i, rfl⟩⟩
    cases fz with
    | false => rfl
    | true =>
      have := h rfl
      unfold noPk at this
      rw [hk] at this
      cases this
theorem mEs_len : ∀ {es : Py.Es} {xs : List Expr}, mEs T es S xs = true → Es.len es = xs.length
  | .nil, [], _ => rfl
  | .nil, _ :: _, h => by simp [mEs] at h
  | .cons e r, [], h => by simp [mEs] at h
  | .cons e r, x :: xs, h => by
    simp only [mEs] at h
    obtain ⟨_, h⟩ := ba h
    obtain ⟨_, h⟩ := ba h
    simp only [Es.len, List.length_cons, mEs_len h]
theorem sTgs : ∀ {is : List Nat} {es : List Expr}, Fine c T L S → mTgs T S is es = true → PGs c.X es (gNs is) ∧ (assignEach es c.X.env).length = is.length ∧ (assignEach es c.X.env).findIdx? (·.1) = none
  | [], [], F, _ => ⟨pgs_nil, rfl, rfl⟩
  | [], _ :: _, F, h => by cases h
  | i :: is, es, F, h => by
    cases es with
    | nil => cases h
    | cons e es =>
      cases e <;> first | (cases h; done) | skip
      rename_i x p
      obtain ⟨h1, h2⟩ := ba h
      obtain ⟨k1, k2, k3⟩ := sTgs F h2
      obtain ⟨g1, g2, g3⟩ := F.tgB h1
      refine ⟨pgs_cons (pg_name F.ndX g1 g2 g3) k1 rfl, ?_, ?_⟩
      · show (assignEach es c.X.env).length + 1 = _
        rw [k2]; rfl
      · rw [assign_each rfl, List.findIdx?_cons]
        simp [k3]
theorem sTgt {t : Py.Tgt} {x : Expr} (F : Fine c T L S) (h : mTgt T S t x = true) : PG c.X x (gOf c.X.K t) := by
  cases t with
  | nm i =>
    cases x <;> first | (cases h; done) | skip
    obtain ⟨g1, g2, g3⟩ := F.tgB h
    exact pg_name F.ndX g1 g2 g3
  | tp is =>
    cases x <;> first | (cases h; done) | skip
    obtain ⟨h0, h⟩ := ba h
    obtain ⟨k1, k2, k3⟩ := sTgs F h
    exact pg_tup (F.calm h0).1 k1 k2 k3
theorem Fine.nm {x f : Str} (F : Fine c T L S) (h : mNm S x f = true) : x = f ∧ Gl c.X x ∧ (x == ("__debug__" : Str)) = false := by
  obtain ⟨h1, h2⟩ := ba h
  obtain ⟨h3, h4⟩ := F.glB h2
  exact ⟨of_decide_eq_true h1, h3, h4⟩
theorem Fine.free {x : Str} (F : Fine c T L S) (h : T.bl.contains x = true) : c.X.mg x = none := F.bl x (List.contains_iff_mem.mp h)
theorem sC {d : Py.D} {x : Expr} (h : mC d x = true) : JB c .val x (fun _ => Py.ret d) ∧ notBool x = true := by
  unfold mC at h
  split at h
  · obtain rfl := of_decide_eq_true h; exact ⟨jb_int, rfl⟩
  · obtain rfl := of_decide_eq_true h; exact ⟨jb_bl, rfl⟩
  · exact ⟨jb_non, rfl⟩
  · obtain ⟨h1, h2⟩ := ba h; exact ⟨jb_str (of_decide_eq_true h1) h2, rfl⟩
  · cases h
theorem ite_kd {q a b : Py.E} (ha : noPk a = true) (hb : noPk b = true) : (kd (.ite q a b) = .frs ∧ kd a = .frs ∧ kd b = .frs) ∨ kd (.ite q a b) = .val := by
  unfold noPk at ha hb
  cases h1 : kd a <;> cases h2 : kd b <;> simp [kd, h1, h2]
end
abbrev blkC (c : Ct) (s : Shared) (H : Hp) (scope : Scope) (C : Addr) (cl : List (Str × Addr)) (fp : List Addr) : Ct := { c.still with X := c.X.blk s H scope (compEnvC scope cl C c.X.env) fp }
theorem tE_blk {c : Ct} {s : Shared} {H : Hp} {scope : Scope} {C : Addr} {cl : List (Str × Addr)} {fp : List Addr} {e : Expr} {m : Py.Env → Py.M Py.D} (h : JE (blkC c s H scope C cl fp) .val e m) : PE (c.X.blk s H scope (compEnvC scope cl C c.X.env) fp) e (tE c.still .val m) := PE.imp h fun σ H Q ⟨Z, η, ω, r, en, q⟩ => ⟨Z, η, ω, r, en, by
  unfold post at q ⊢
  revert q
  cases m r ω with
  | stuck => exact fun q => q
  | exc x w => exact fun q H' Z' η' a n ha => q H' Z' η' a ⟨n.s, n.w⟩ ha
  | ok d w => exact fun q v H' Z' η' n rr => q v H' Z' η' ⟨n.s, n.w⟩ rr⟩
theorem tT_blk {c : Ct} {s : Shared} {H : Hp} {scope : Scope} {C : Addr} {cl : List (Str × Addr)} {fp : List Addr} {e : Expr} {m : Py.Env → Py.M Bool} (h : JT (blkC c s H scope C cl fp) e m) : PT (c.X.blk s H scope (compEnvC scope cl C c.X.env) fp) e (tT c.still m) := PT.imp h fun σ H Q ⟨Z, η, ω, r, en, q⟩ => ⟨Z, η, ω, r, en, by
  unfold postB at q ⊢
  revert q
  cases m r ω with
  | stuck => exact fun q => q
  | exc x w => exact fun q H' Z' η' a n ha => q H' Z' η' a ⟨n.s, n.w⟩ ha
  | ok d w => exact fun q H' Z' η' n => q H' Z' η' ⟨n.s, n.w⟩⟩
set_option maxHeartbeats 1000000
mutual
theorem sE {T : Tb} {L : Py.Lk} : ∀ (e : Py.E) {c : Ct} {S : Sc} {x : Expr}, Fine c T L S → mE T e S x = true → G c (kd e) x (Py.ev L e)
  | .cst d, c, S, x, F, h => by
    obtain ⟨h1, h2⟩ := sC (c := c) (show mC d x = true by simpa only [mE] using h)
    exact .of h1 h2
  | .var i, c, S, x, F, h => by
    simp only [mE] at h
    split at h
    · obtain ⟨h1, h2, h3, h4⟩ := F.nmB h
      exact .of (jb_var h1 h2 h3 h4) rfl
    · cases h
  | .peek i, c, S, x, F, h => by
    simp only [mE] at h
    split at h
    · obtain ⟨h1, h2, h3, h4⟩ := F.nmB h
      exact ⟨je_peek h1 h2 h3 h4, fun z => (by cases z), fun _ _ _ z => (by cases z)⟩
    · cases h
  | .glb i, c, S, x, F, h => by
    simp only [mE] at h
    split at h
    · obtain ⟨h1, h2⟩ := ba h
      obtain ⟨v, u, g1, g2, g3⟩ := F.gl i _ (of_decide_eq_true h1)
      obtain ⟨g4, g5⟩ := F.glB h2
      exact .of (jb_glob g4 g1 g2 g5 g3) rfl
    · cases h
  | .fnv i, c, S, x, F, h => by
    simp only [mE] at h
    split at h
    · obtain ⟨h1, h2⟩ := ba h
      obtain ⟨⟨n, np⟩, k1, k2⟩ := Option.map_eq_some_iff.mp (of_decide_eq_true h1)
      obtain ⟨a, g1, g2, _⟩ := F.df i n np k1
      obtain ⟨g4, g5⟩ := F.glB h2
      subst k2
      exact .of (jb_glob g4 g2 (v := .ref a) rfl g5 (fun H Z η => .fn g1)) rfl
    · cases h
  | .bin o a b, c, S, x, F, h => by
    simp only [mE] at h
    split at h
    · obtain ⟨h1, h⟩ := ba h
      obtain ⟨h2, h3⟩ := ba h
      obtain rfl := of_decide_eq_true h1
      exact .of (.plain (.inr rfl) (je_op (opS_bin o) (sE a F h2).je (sE b F h3).je) (fun _ => rfl)) rfl
    · cases h
  | .neg a, c, S, x, F, h => by
    simp only [mE] at h
    split at h
    · exact .of (jb_neg (sE a F h).je) rfl
    · cases h
  | .not a, c, S, x, F, h => by
    simp only [mE] at h
    split at h
    · obtain ⟨h1, h2⟩ := ba h
      exact .of (jb_not ((sE a F h2).val (nb h1))) rfl
    · cases h
  | .and a b, c, S, x, F, h => by
    simp only [mE] at h
    split at h
    · obtain ⟨h1, h⟩ := ba h
      obtain ⟨h2, h⟩ := ba h
      obtain ⟨h3, h4⟩ := ba h
      have w := JW.and ((sE a F h3).val (nb h1)) (JW.one ((sE b F h4).val (nb h2)))
      exact ⟨(w.jb _).je, fun _ => w.jb _, fun op es pos e => by cases e; exact w⟩
    · obtain ⟨h1, h⟩ := ba h
      obtain ⟨h3, h4⟩ := ba h
      have w := JW.and ((sE a F h3).val (nb h1)) ((sE b F h4).jw _ _ _ rfl)
      exact ⟨(w.jb _).je, fun _ => w.jb _, fun op es pos e => by cases e; exact w⟩
    · cases h
  | .or a b, c, S, x, F, h => by
    simp only [mE] at h
    split at h
    · obtain ⟨h1, h⟩ := ba h
      obtain ⟨h2, h⟩ := ba h
      obtain ⟨h3, h4⟩ := ba h
      have w := JW.or ((sE a F h3).val (nb h1)) (JW.one ((sE b F h4).val (nb h2)))
      exact ⟨(w.jb _).je, fun _ => w.jb _, fun op es pos e => by cases e; exact w⟩
    · obtain ⟨h1, h⟩ := ba h
      obtain ⟨h3, h4⟩ := ba h
      have w := JW.or ((sE a F h3).val (nb h1)) ((sE b F h4).jw _ _ _ rfl)
      exact ⟨(w.jb _).je, fun _ => w.jb _, fun op es pos e => by cases e; exact w⟩
    · cases h
  | .cmp o a b, c, S, x, F, h => by
    simp only [mE] at h
    split at h
    · obtain ⟨h1, h⟩ := ba h
      obtain ⟨h2, h⟩ := ba h
      obtain ⟨h3, h4⟩ := ba h
      obtain rfl := of_decide_eq_true h1
      exact .of (jb_cmp (opB_cmp F.un o) (sE a F h3).je (sE b F h4).je (set_marks h2)) rfl
    · cases h
  | .cmp2 o o' a b d, c, S, x, F, h => by
    simp only [mE] at h
    split at h
    · obtain ⟨h1, h⟩ := ba h
      obtain ⟨h1', h⟩ := ba h
      obtain ⟨h2, h⟩ := ba h
      obtain ⟨h3, h⟩ := ba h
      obtain ⟨h4, h5⟩ := ba h
      obtain rfl := of_decide_eq_true h1
      obtain rfl := of_decide_eq_true h1'
      exact .of (jb_cmp2 (opB_cmp F.un o) (opB_cmp F.un o') (sE a F h3).je (sE b F h4).je (sE d F h5).je (set_marks h2)) rfl
    · cases h
  | .cmp3 o o' o'' a b d f, c, S, x, F, h => by
    simp only [mE] at h
    split at h
    · obtain ⟨h1, h⟩ := ba h
      obtain ⟨h1', h⟩ := ba h
      obtain ⟨h1'', h⟩ := ba h
      obtain ⟨h2, h⟩ := ba h
      obtain ⟨h3, h⟩ := ba h
      obtain ⟨h4, h⟩ := ba h
      obtain ⟨h5, h6⟩ := ba h
      obtain rfl := of_decide_eq_true h1
      obtain rfl := of_decide_eq_true h1'
      obtain rfl := of_decide_eq_true h1''
      exact .of (jb_cmp3 (opB_cmp F.un o) (opB_cmp F.un o') (opB_cmp F.un o'') (sE a F h3).je (sE b F h4).je (sE d F h5).je (sE f F h6).je (set_marks h2)) rfl
    · cases h
  | .isC n a d, c, S, x, F, h => by
    simp only [mE] at h
    split at h
    · obtain ⟨h1, h⟩ := ba h
      obtain ⟨h2, h3⟩ := ba h
      obtain rfl := of_decide_eq_true h1
      refine .of (jb_isC (sE a F h3).je ?_) rfl
      unfold isCst at h2
      split at h2
      · exact .inl ⟨rfl, _, _, rfl⟩
      · obtain rfl := of_decide_eq_true h2; exact .inr ⟨_, _, _, rfl, rfl⟩
      · cases h2
    · cases h
  | .ite q a b, c, S, x, F, h => by
    simp only [mE] at h
    split at h
    · obtain ⟨h1, h⟩ := ba h
      obtain ⟨h2, h⟩ := ba h
      obtain ⟨h3, h⟩ := ba h
      obtain ⟨h4, h⟩ := ba h
      obtain ⟨h5, h6⟩ := ba h
      rcases ite_kd (q := q) h2 h3 with ⟨k1, k2, k3⟩ | k1
      · have ga := (sE a F h5).jb (nb h2)
        have gb := (sE b F h6).jb (nb h3)
        rw [k2] at ga
        rw [k3] at gb
        rw [k1]
        exact .of (jb_ite ((sE q F h4).val (nb h1)) ga gb) rfl
      · rw [k1]
        exact .of (jb_ite ((sE q F h4).val (nb h1)) ((sE a F h5).val (nb h2)) ((sE b F h6).val (nb h3))) rfl
    · cases h
  | .call f es, c, S, x, F, h => by
    simp only [mE] at h
    split at h
    · rename_i n _ args _
      obtain ⟨h0, h⟩ := ba h
      obtain ⟨h1, h⟩ := ba h
      obtain ⟨h2, h⟩ := ba h
      obtain ⟨h3, h⟩ := ba h
      obtain ⟨h4, h5⟩ := ba h
      obtain ⟨a, g1, g2, g3⟩ := F.df f _ _ (of_decide_eq_true h1)
      obtain ⟨⟨j, fd, ps, ok, hr, hb⟩, kp⟩ := g3 h0
      obtain ⟨g4, g5⟩ := F.glB h2
      have hl := mEs_len h5
      have ja := sEs es F h5 _ (fits_vals h4)
      rw [hl] at ja
      cases args with
      | nil =>
        cases es with
        | nil => exact .of (jb_call0 (m := L.φ f) ok hr g4 g2 kp hb F.tk g5) rfl
        | cons _ _ => simp [mEs] at h5
      | cons e r =>
        obtain ⟨h6, h7⟩ := ba (show (notStar e && r.all notStar) = true from h3)
        exact .of (jb_call ok hr g4 g2 kp hb F.tk ja g5 (star_cons h6) (star_any h7)) rfl
    · cases h
  | .calv f es, c, S, x, F, h => by
    simp only [mE] at h
    split at h
    · obtain ⟨h0, h⟩ := ba h
      obtain ⟨h1, h⟩ := ba h
      obtain ⟨h2, h⟩ := ba h
      obtain ⟨h3, h⟩ := ba h
      obtain ⟨h4, h⟩ := ba h
      obtain ⟨h5, h6⟩ := ba h
      have ja := sEs es F h6 _ (fits_vals h5)
      refine .of (jb_calv (sE f F h2).je (fun i a hi => ?_) F.tk ja rfl (star_cons h3) (star_any h4)) rfl
      obtain ⟨x, n, k1, k2⟩ := F.fa i a hi
      obtain ⟨a', g1, g2, g3⟩ := F.df i x n k1
      rw [hi] at g1
      cases g1
      exact ⟨n, g3 h0, fun ds ω hne => F.ln i x n ds ω k1 hne⟩
    · cases h
  | .blt b es, c, S, x, F, h => by
    simp only [mE] at h
    split at h
    · split at h
      · rename_i nm hb
        obtain ⟨h0, h⟩ := ba h
        obtain ⟨h1, h⟩ := ba h
        obtain ⟨h2, h⟩ := ba h
        obtain ⟨h3, h⟩ := ba h
        obtain ⟨h4, h⟩ := ba h
        obtain ⟨h5, h6⟩ := ba h
        obtain ⟨e1, g1, g2⟩ := F.nm h1
        have g3 := F.free h3
        have ja := sEs es F h6 _ (fits_kds es)
        subst e1
        rcases blt_ok (c := c) hb (F.calm h0).1 F.un with ⟨id, k1, k2⟩ | ⟨id, k1, k2⟩
        · exact .of (jb_callB k1 g1 g3 k2 ja (of_decide_eq_true h2) g2 (star_cons h4) (star_any h5)) rfl
        · exact .of (jb_callTy k1 g1 g3 k2 ja (of_decide_eq_true h2) g2 (star_cons h4) (star_any h5)) rfl
      · cases h
    · cases h
  | .b1 b a, c, S, x, F, h => by
    simp only [mE] at h
    split at h
    · split at h
      · obtain ⟨h0, h⟩ := ba h
        obtain ⟨h1, h⟩ := ba h
        obtain ⟨h2, h⟩ := ba h
        obtain ⟨h3, h⟩ := ba h
        obtain ⟨h4, h⟩ := ba h
        obtain ⟨h5, h6⟩ := ba h
        obtain ⟨e1, g1, _⟩ := F.nm h1
        obtain ⟨e2, g2, _⟩ := F.nm h3
        have m1 := F.free h2
        have m2 := F.free h4
        subst e1 e2
        exact .of (jb_ssetI (F.calm h0).1 (sE a F h6).je g1 m1 g2 m2 (star_one h5)) rfl
      · cases h
    · split at h
      · obtain ⟨h0, h⟩ := ba h
        obtain ⟨h1, h⟩ := ba h
        obtain ⟨h2, h⟩ := ba h
        obtain ⟨h3, h⟩ := ba h
        obtain ⟨h4, h⟩ := ba h
        obtain ⟨h5, h6⟩ := ba h
        obtain ⟨e1, g1, _⟩ := F.nm h1
        obtain ⟨e2, g2, _⟩ := F.nm h3
        have m1 := F.free h2
        have m2 := F.free h4
        subst e1 e2
        exact .of (jb_lrng1 (F.calm h0).1 (sE a F h6).je g1 m1 g2 m2 (star_one h5)) rfl
      · cases h
    · cases h
  | .b2 b a d, c, S, x, F, h => by
    simp only [mE] at h
    split at h
    · split at h
      · obtain ⟨h0, h⟩ := ba h
        obtain ⟨h1, h⟩ := ba h
        obtain ⟨h2, h⟩ := ba h
        obtain ⟨h3, h⟩ := ba h
        obtain ⟨h4, h⟩ := ba h
        obtain ⟨h5, h⟩ := ba h
        obtain ⟨h6, h⟩ := ba h
        obtain ⟨h7, h8⟩ := ba h
        obtain ⟨e1, g1, _⟩ := F.nm h1
        obtain ⟨e2, g2, _⟩ := F.nm h3
        have m1 := F.free h2
        have m2 := F.free h4
        subst e1 e2
        exact .of (jb_lrng2 (F.calm h0).1 (sE a F h7).je (sE d F h8).je g1 m1 g2 m2 (by rw [star_cons h5, star_one h6]) (star_one h6) (star_any (by simp [h6]))) rfl
      · cases h
    · cases h
  | .sidx cs b, c, S, x, F, h => by
    simp only [mE] at h
    split at h
    · obtain ⟨h1, h⟩ := ba h
      obtain ⟨h2, h⟩ := ba h
      obtain ⟨h3, h⟩ := ba h
      obtain ⟨h4, h⟩ := ba h
      obtain ⟨h5, h⟩ := ba h
      obtain ⟨h6, h7⟩ := ba h
      obtain rfl := of_decide_eq_true h1
      exact .of (jb_sidx (of_decide_eq_true h3) h4 h5 (sE b F h7).je (call_base rfl) (star_one h6) (by rw [of_decide_eq_true h2]; exact beq_self_eq_true _)) rfl
    · cases h
  | .idx a b, c, S, x, F, h => by
    simp only [mE] at h
    split at h
    · obtain ⟨h1, h⟩ := ba h
      obtain ⟨h2, h⟩ := ba h
      obtain ⟨h3, h⟩ := ba h
      obtain ⟨h4, h⟩ := ba h
      obtain ⟨h5, h6⟩ := ba h
      obtain rfl := of_decide_eq_true h1
      exact .of (jb_idx F.un (sE a F h5).je (sE b F h6).je (call_base h3) (star_one h4) (by rw [of_decide_eq_true h2]; exact beq_self_eq_true _)) rfl
    · cases h
  | .cnt a b, c, S, x, F, h => by simp only [mE] at h; cases h
  | .isi a t, c, S, x, F, h => by
    simp only [mE] at h
    split at h
    · obtain ⟨h1, h⟩ := ba h
      obtain ⟨h2, h⟩ := ba h
      obtain ⟨h3, h⟩ := ba h
      obtain ⟨h4, h⟩ := ba h
      obtain ⟨h5, h6⟩ := ba h
      obtain ⟨e1, g1, _⟩ := F.nm h1
      obtain ⟨e2, g2, _⟩ := F.nm h2
      have g3 := F.free h3
      have g4 := F.free h4
      subst e1
      exact .of (jb_isi (sE a F h6).je g1 g3 e2 g2 g4 (star_cons h5)) rfl
    · cases h
  | .ise i k, c, S, x, F, h => by
    simp only [mE] at h
    split at h
    · obtain ⟨h1, h⟩ := ba h
      obtain ⟨h2, h⟩ := ba h
      obtain ⟨h3, h⟩ := ba h
      obtain ⟨h4, h⟩ := ba h
      obtain ⟨h5, h6⟩ := ba h
      obtain ⟨e1, g1, _⟩ := F.nm h1
      have g3 := F.free h2
      obtain ⟨a, n, D0, k1, k2, k3⟩ := F.hot i (of_decide_eq_true h3)
      obtain ⟨n1, n2, n3, n4⟩ := F.nmB h4
      obtain ⟨g5, g6⟩ := F.glB h5
      obtain ⟨E, k4, k5, _⟩ := F.cl k _ (of_decide_eq_true h6)
      subst e1
      exact .of (jb_ise (sub := fun n => L.sub n k) k1 k3 n1 n2 n3 n4 g5 k5 g6 (F.sub n k D0 E k2 k4).1 g1 g3) rfl
    · cases h
  | .sub a b, c, S, x, F, h => by
    simp only [mE] at h
    split at h
    · obtain ⟨h1, h⟩ := ba h
      obtain ⟨h2, h3⟩ := ba h
      exact .of (jb_sub (sE a F h2).je (sE b F h3).je (slice_plain h1)) rfl
    · cases h
  | .slL a b, c, S, x, F, h => by
    simp only [mE] at h
    split at h
    · obtain ⟨h2, h3⟩ := ba h
      exact .of (jb_slL (sE a F h2).je (sE b F h3).je) rfl
    · cases h
  | .slH a b, c, S, x, F, h => by
    simp only [mE] at h
    split at h
    · obtain ⟨h2, h3⟩ := ba h
      exact .of (jb_slH (sE a F h2).je (sE b F h3).je) rfl
    · cases h
  | .slB a b d, c, S, x, F, h => by
    simp only [mE] at h
    split at h
    · obtain ⟨h2, h⟩ := ba h
      obtain ⟨h3, h4⟩ := ba h
      exact .of (jb_slB (sE a F h2).je (sE b F h3).je (sE d F h4).je) rfl
    · cases h
  | .rev a, c, S, x, F, h => by
    simp only [mE] at h
    split at h
    · obtain ⟨h1, h2⟩ := ba h
      obtain rfl := of_decide_eq_true h1
      exact .of (jb_rev (sE a F h2).je) rfl
    · cases h
  | .stk, c, S, x, F, h => by simp only [mE] at h; cases h
  | .cell a, c, S, x, F, h => by
    simp only [mE] at h
    split at h
    · obtain ⟨h1, h2⟩ := ba h
      have g := (sE a F h2).je
      rw [frs_is h1] at g
      exact .of (.plain (.inl rfl) (je_cell g) (fun _ => rfl)) rfl
    · cases h
  | .subC a b, c, S, x, F, h => by
    simp only [mE] at h
    split at h
    · obtain ⟨h1, h⟩ := ba h
      obtain ⟨h2, h3⟩ := ba h
      exact .of (jb_subC (sE a F h2).je (sE b F h3).je (slice_plain h1)) rfl
    · cases h
  | .cmpC o a b, c, S, x, F, h => by
    simp only [mE] at h
    split at h
    · obtain ⟨h1, h⟩ := ba h
      obtain ⟨h2, h⟩ := ba h
      obtain ⟨h3, h4⟩ := ba h
      obtain rfl := of_decide_eq_true h1
      exact .of (jb_cmpC (opB_cmp F.un o) (sE a F h3).je (sE b F h4).je (set_marks h2)) rfl
    · cases h
  | .isE n a, c, S, x, F, h => by
    simp only [mE] at h
    split at h
    · obtain ⟨h1, h2⟩ := ba h
      obtain rfl := of_decide_eq_true h1
      exact .of (jb_isE (Nat.lt_of_le_of_lt (Nat.le_succ _) F.un) (sE a F h2).je) rfl
    · cases h
  | .tupC a, c, S, x, F, h => by
    simp only [mE] at h
    split at h
    · obtain ⟨h1, h⟩ := ba h
      obtain ⟨h2, h⟩ := ba h
      obtain ⟨h3, h4⟩ := ba h
      obtain ⟨e1, g1, g2⟩ := F.nm h1
      have g3 := F.free h2
      subst e1
      exact .of (jb_copC cs_tuple g1 g3 rfl (sE a F h4).je (by decide) g2 (star_one h3) rfl) rfl
    · cases h
  | .lstC a, c, S, x, F, h => by
    simp only [mE] at h
    split at h
    · obtain ⟨h1, h⟩ := ba h
      obtain ⟨h2, h⟩ := ba h
      obtain ⟨h3, h4⟩ := ba h
      obtain ⟨e1, g1, g2⟩ := F.nm h1
      have g3 := F.free h2
      subst e1
      exact .of (jb_copC cs_list g1 g3 rfl (sE a F h4).je (by decide) g2 (star_one h3) rfl) rfl
    · cases h
  | .appC a e, c, S, x, F, h => by
    simp only [mE] at h
    split at h
    · obtain ⟨h1, h⟩ := ba h
      obtain ⟨h2, h⟩ := ba h
      obtain ⟨h3, h⟩ := ba h
      obtain ⟨h4, h⟩ := ba h
      obtain ⟨h5, h⟩ := ba h
      obtain ⟨h6, h⟩ := ba h
      obtain ⟨h7, h8⟩ := ba h
      obtain rfl := of_decide_eq_true h1
      exact .of (jb_appC ((sE a F h7).val (nb h5)).je ((sE e F h8).val (nb h6)).je (call_base h3) (star_one h4) (by rw [of_decide_eq_true h2]; exact beq_self_eq_true _)) rfl
    · cases h
  | .newD, c, S, x, F, h => by
    simp only [mE] at h
    split at h
    · exact .of jb_newD rfl
    · cases h
  | .getD a k e, c, S, x, F, h => by
    simp only [mE] at h
    split at h
    · obtain ⟨h1, h⟩ := ba h
      obtain ⟨h2, h⟩ := ba h
      obtain ⟨h3, h⟩ := ba h
      obtain ⟨h4, h⟩ := ba h
      obtain ⟨h5, h⟩ := ba h
      obtain ⟨h6, h⟩ := ba h
      obtain ⟨h7, h⟩ := ba h
      obtain ⟨h8, h⟩ := ba h
      obtain ⟨h9, h⟩ := ba h
      obtain ⟨h10, h11⟩ := ba h
      obtain rfl := of_decide_eq_true h1
      refine .of (jb_getD (Nat.lt_of_le_of_lt (Nat.add_le_add_left (by decide) _) F.un) ((sE a F h9).val (nb h6)).je ((sE k F h10).val (nb h7)).je ((sE e F h11).val (nb h8)).je ⟨call_base h3, ?_, by rw [of_decide_eq_true h2]; exact beq_self_eq_true _, ?_⟩) rfl
      · rw [star_cons h4, star_one h5]; rfl
      · rw [star_cons h4, star_one h5]; rfl
    · cases h
  | .cmpL is a e, c, S, x, F, h => by
    simp only [mE] at h
    split at h
    · rename_i elt tgs kt tp iter scope pos
      obtain ⟨h0, h⟩ := ba h
      obtain ⟨h1, h⟩ := ba h
      obtain ⟨h2, h⟩ := ba h
      obtain ⟨h3, h⟩ := ba h
      obtain ⟨h4, h⟩ := ba h
      obtain ⟨h5, h6⟩ := ba h
      have bk := blk_ok F h1
      obtain ⟨k, k1, k2⟩ := opk_of (fz := false) (e := a) (fun z => by cases z)
      refine .of (jb_cmpL (F.calm h0).1 F.ndX (ji_seq k2 ((sE a F h4).at k1)) bk (own_is T (.tp is)) (fun s H C cl fp => ?_)
        (fun s H C cl fp => ⟨fun pins s σ H Q I q => pts_nil.run pins s σ H Q I (tT.ret q)⟩) (fun s H C cl fp => tE_blk ((sE e (F.blk h0 bk.kind s H C cl fp) h6).val (nb h5)).je) (set_fold h3)) rfl
      have FB := F.blk h0 bk.kind s H C cl fp
      obtain ⟨q1, q2, q3⟩ := sTgs FB h2
      exact pg_any (FB.calm rfl).1 q1 q2 q3
    · cases h
  | .newI _ _, c, S, x, F, h => by simp only [mE] at h; cases h
  | .fld _ _, c, S, x, F, h => by simp only [mE] at h; cases h
  | .meth _ _ _ _, c, S, x, F, h => by simp only [mE] at h; cases h
  | .popC _, c, S, x, F, h => by simp only [mE] at h; cases h
  | .insC _ _ _, c, S, x, F, h => by simp only [mE] at h; cases h
  | .isiC _ _, c, S, x, F, h => by simp only [mE] at h; cases h
  | .isO _ _, c, S, x, F, h => by simp only [mE] at h; cases h
  | .lenO _ _ _, c, S, x, F, h => by simp only [mE] at h; cases h
  | .eqO _ _ _ _ _, c, S, x, F, h => by simp only [mE] at h; cases h
  | .cmpS _ _ _, c, S, x, F, h => by simp only [mE] at h; cases h
  | .callF _ _, c, S, x, F, h => by simp only [mE] at h; cases h
  | .methF _ _ _ _, c, S, x, F, h => by simp only [mE] at h; cases h
  | .tup es, c, S, x, F, h => by
    simp only [mE] at h
    split at h
    · obtain ⟨h1, h⟩ := ba h
      obtain ⟨h2, h3⟩ := ba h
      have ja := sEs es F h3 _ (fits_vals h2)
      exact .of (je_tup ja (by rw [mEs_len h3]; exact of_decide_eq_true h1)) rfl
    · cases h
  | .lst es, c, S, x, F, h => by
    simp only [mE] at h
    split at h
    · obtain ⟨h1, h⟩ := ba h
      obtain ⟨h2, h3⟩ := ba h
      have ja := sEs es F h3 _ (fits_vals h2)
      exact .of (je_lst ja (by rw [mEs_len h3]; exact of_decide_eq_true h1)) rfl
    · cases h
  | .cmp0 t it e, c, S, x, F, h => by
    simp only [mE] at h
    split at h
    · rename_i elt tg iter scope pos
      obtain ⟨h0, h⟩ := ba h
      obtain ⟨h1, h⟩ := ba h
      obtain ⟨h2, h⟩ := ba h
      obtain ⟨h3, h⟩ := ba h
      obtain ⟨h4, h⟩ := ba h
      obtain ⟨h5, h6⟩ := ba h
      have bk := blk_ok F h1
      refine .of (jb_comp (F.calm h0).1 F.ndX (sI it (fz := false) F (fun z => by cases z) h4) bk (own_is T t) (fun s H C cl fp => sTgt (F.blk h0 bk.kind s H C cl fp) h2)
        (mt := fun _ => Py.ret true) (fun s H C cl fp => ⟨fun pins s σ H Q I q => pts_nil.run pins s σ H Q I (tT.ret q)⟩) (fun s H C cl fp => tE_blk ((sE e (F.blk h0 bk.kind s H C cl fp) h6).val (nb h5)).je) (set_fold h3) ?_) rfl
      rfl
    · cases h
  | .cmpi t it q e, c, S, x, F, h => by
    simp only [mE] at h
    split at h
    · rename_i elt tg iter cd scope pos
      obtain ⟨h0, h⟩ := ba h
      obtain ⟨h1, h⟩ := ba h
      obtain ⟨h2, h⟩ := ba h
      obtain ⟨h3, h⟩ := ba h
      obtain ⟨h4, h⟩ := ba h
      obtain ⟨h5, h⟩ := ba h
      obtain ⟨h6, h⟩ := ba h
      obtain ⟨h7, h8⟩ := ba h
      have bk := blk_ok F h1
      refine .of (jb_comp (F.calm h0).1 F.ndX (sI it (fz := false) F (fun z => by cases z) h4) bk (own_is T t) (fun s H C cl fp => sTgt (F.blk h0 bk.kind s H C cl fp) h2)
        (mt := asT (Py.ev L q)) (fun s H C cl fp => pts_one (tT_blk ((sE q (F.blk h0 bk.kind s H C cl fp) h8).val (nb h7)).jt)) (fun s H C cl fp => tE_blk ((sE e (F.blk h0 bk.kind s H C cl fp) h6).val (nb h5)).je) (set_fold h3) ?_) rfl
      funext r
      have e1 : (fun x => Py.noexc (Py.bnd (Py.lif (Py.bindT (Py.wipeT r t) t x)) fun r' => Py.bnd (Py.ev L q r') fun k => Py.bnd (Py.lif (Py.tru k)) fun k => if k = true then Py.bnd (Py.ev L e r') fun y => Py.ret (some y) else Py.ret none)) = cStep t (asT (Py.ev L q)) (Py.ev L e) r := funext fun x => cmpi_eq x
      show Py.bnd (Py.evi L it r) (fun xs => Py.bnd (Py.compM xs (fun x => Py.noexc (Py.bnd (Py.lif (Py.bindT (Py.wipeT r t) t x)) fun r' => Py.bnd (Py.ev L q r') fun k => Py.bnd (Py.lif (Py.tru k)) fun k => if k = true then Py.bnd (Py.ev L e r') fun y => Py.ret (some y) else Py.ret none))) fun ys => Py.ret (Py.D.lst ys)) = _
      rw [e1]
    · cases h
theorem sEs {T : Tb} {L : Py.Lk} : ∀ (es : Py.Es) {c : Ct} {S : Sc} {xs : List Expr}, Fine c T L S → mEs T es S xs = true → ∀ ks, fits es ks → JA c ks xs (Py.evs L es)
  | .nil, c, S, xs, F, h, ks, hk => by
    simp only [mEs] at h
    split at h
    · cases ks with
      | nil => exact ja_nil
      | cons _ _ => exact hk.elim
    · cases h
  | .cons e r, c, S, xs, F, h, ks, hk => by
    simp only [mEs] at h
    split at h
    · obtain ⟨h1, h⟩ := ba h
      obtain ⟨h2, h3⟩ := ba h
      cases ks with
      | nil => exact hk.elim
      | cons k ks => exact ja_cons ((sE e F h2).at hk.1) (sEs r F h3 ks hk.2) (star_cons h1)
    · cases h
theorem sI {T : Tb} {L : Py.Lk} : ∀ (it : Py.It) {fz : Bool} {c : Ct} {S : Sc} {tg x : Expr}, Fine c T L S → (fz = true → fzI it = true) → mI T it S tg x = true → JI c fz tg x (Py.evi L it)
  | .seq a, fz, c, S, tg, x, F, hz, h => by
    simp only [mI] at h
    obtain ⟨k, k1, k2⟩ := opk_of (e := a) hz
    exact ji_seq k2 ((sE a F h).at k1)
  | .rng1 a, fz, c, S, tg, x, F, hz, h => by
    simp only [mI] at h
    split at h
    · obtain ⟨h1, h⟩ := ba h
      obtain ⟨h2, h⟩ := ba h
      obtain ⟨h3, h4⟩ := ba h
      obtain ⟨e1, g1, _⟩ := F.nm h1
      have g3 := F.free h2
      subst e1
      exact ji_rng1 (sE a F h4).je g1 g3 (star_one h3)
    · cases h
  | .rng2 a b, fz, c, S, tg, x, F, hz, h => by
    simp only [mI] at h
    split at h
    · obtain ⟨h1, h⟩ := ba h
      obtain ⟨h2, h⟩ := ba h
      obtain ⟨h3, h⟩ := ba h
      obtain ⟨h4, h⟩ := ba h
      obtain ⟨h5, h6⟩ := ba h
      obtain ⟨e1, g1, _⟩ := F.nm h1
      have g3 := F.free h2
      subst e1
      exact ji_rng2 (sE a F h5).je (sE b F h6).je g1 g3 (by rw [star_cons h3, star_one h4]) (star_one h4)
    · cases h
  | .zip a b, fz, c, S, tg, x, F, hz, h => by
    simp only [mI] at h
    split at h
    · obtain ⟨h1, h⟩ := ba h
      obtain ⟨h2, h⟩ := ba h
      obtain ⟨h3, h⟩ := ba h
      obtain ⟨h4, h⟩ := ba h
      obtain ⟨h5, h6⟩ := ba h
      obtain ⟨e1, g1, _⟩ := F.nm h1
      have g3 := F.free h2
      subst e1
      obtain ⟨k, k1, k2⟩ := opk_of (e := a) fun z => (ba (hz z)).1
      obtain ⟨k', k3, k4⟩ := opk_of (e := b) fun z => (ba (hz z)).2
      exact ji_zip k2 k4 ((sE a F h5).at k1) ((sE b F h6).at k3) g1 g3 (star_cons h3) (star_cons h4) (star_any (by simp [h4]))
    · cases h
  | .enum a, fz, c, S, tg, x, F, hz, h => by
    simp only [mI] at h
    split at h
    · obtain ⟨h1, h⟩ := ba h
      obtain ⟨h2, h⟩ := ba h
      obtain ⟨h3, h4⟩ := ba h
      obtain ⟨e1, g1, _⟩ := F.nm h1
      have g3 := F.free h2
      subst e1
      obtain ⟨k, k1, k2⟩ := opk_of (e := a) hz
      exact ji_enum k2 ((sE a F h4).at k1) g1 g3 (star_one h3)
    · cases h
end
end PyS
end
section
namespace PyS
open PySem PySem.Spec PyProof.Rows L2
def isComp : Py.E → Bool
  | .cmp0 .. => true
  | .cmpi .. => true
  | _ => false
def swB (S : Sc) (v : Expr) (x : Str) (p : Pos) : Bool := match v with
  | .ListComp _ _ scope vp => decide (S.sc.names.lookup x = some .local) && (p.line == vp.line && !(scope.names.any fun (n, k) => n == x && (k == .local || k == .cell)))
  | _ => true
def swOk (S : Sc) (e : Py.E) (v : Expr) (x : Str) (p : Pos) : Bool := notComp v || (!swB S v x p || (S.calm && (isComp e && decide (S.sc.names.lookup x = some .local))))
def locN (T : Tb) (S : Sc) (i : Nat) (x : Str) : Bool := decide (T.N[i]? = some x) && decide (S.sc.names.lookup x = some .local)
def parK : List (Bool × Nat) → Py.Es → Bool
  | [], .nil => true
  | (b, _) :: ts, .cons e r => (if b then isFrs e else noPk e) && parK ts r
  | _, _ => false
def notTup : Expr → Bool
  | .Tuple .. => false
  | _ => true
def swNo (ts vs : List Expr) : Bool := (!(ts.length == 2 || ts.length == 3)) || vs.all (foldedForSure 8)
/-- no swapped stores: a name that is no plain local one -/
def swC (S : Sc) (xs : List (Str × Pos)) (l : Nat) : Bool := xs.any fun x => !(S.sc.names.lookup x.1 == some .local && x.2.line == l)
def Sc.suite (S : Sc) (i : Nat) : Sc := { S with calm := false, top := false, hot := some i }
def isFrz : Py.S → Bool
  | .frz _ => true
  | _ => false
mutual
def mS (T : Tb) : Py.S → Sc → Stmt → Bool
  | .asg i e, S, st => (match st with
    | .Assign [.Name x p] v _ => tgB T S i x && (noPk e && (mE T e S v && swOk S e v x p))
    | _ => false)
  | .own i e, S, st => (match st with
    | .Assign [.Name x p] v _ => tgB T S i x && (isFrs e && (mE T e S v && swOk S e v x p))
    | _ => false)
  | .par ts es, S, st => S.calm && (match st with
    | .Assign [.Tuple tgs kt tp] (.Tuple vs k2 tp2) _ => (match ts, tgs, vs with
      | [(b1, i), (b2, j)], [.Name x px, .Name y py], [e, f] => if [e, f].all (foldedForSure 8) then !b1 && (!b2 && (Es.all es && (mEs T es S [e, f] && mTgs T S [i, j] [.Name x px, .Name y py])))
          else if swC S [(x, px), (y, py)] px.line then parK [(b1, i), (b2, j)] es && (mEs T es S [e, f] && mTgs T S [i, j] [.Name x px, .Name y py])
          else locN T S i x && (locN T S j y && (decide (i ≠ j) && (px.line == py.line && (decide (x ≠ y) && (!([e, f].all (constantsAlone 8)) && (parK [(b1, i), (b2, j)] es && mEs T es S [e, f]))))))
      | [(b1, i), (b2, j), (b3, l)], [.Name x px, .Name y py, .Name z pz], [e, f, g] => if [e, f, g].all (foldedForSure 8) then !b1 && (!b2 && (!b3 && (Es.all es && (mEs T es S [e, f, g] && mTgs T S [i, j, l] [.Name x px, .Name y py, .Name z pz]))))
          else if swC S [(x, px), (y, py), (z, pz)] px.line then parK [(b1, i), (b2, j), (b3, l)] es && (mEs T es S [e, f, g] && mTgs T S [i, j, l] [.Name x px, .Name y py, .Name z pz])
          else locN T S i x && (locN T S j y && (locN T S l z && (decide (i ≠ j) && (decide (i ≠ l) && (decide (j ≠ l) && (px.line == py.line && (px.line == pz.line && (decide (x ≠ y) && (decide (x ≠ z) && (decide (y ≠ z) &&
            (!([e, f, g].all (constantsAlone 8)) && (parK [(b1, i), (b2, j), (b3, l)] es && mEs T es S [e, f, g]))))))))))))
      | ts, tgs, vs => decide (ts.length ≤ 1000) && (!(tgs.length == 2 || tgs.length == 3) && (parK ts es && (mEs T es S vs && mTgs T S (ts.map (·.2)) tgs))))
    | _ => false)
  | .unp is e, S, st => (match st with
    | .Assign [.Tuple tgs _ _] v _ => S.calm && (notTup v && (noPk e && (mE T e S v && mTgs T S is tgs)))
    | _ => false)
  | .app i e, S, st => (match st with
    | .Expr (.Call (.Attribute (.Name x _) n apos) [v] [] cpos) _ => decide (n = "append") && (nmB T S i x && (noPk e && (mE T e S v && (notStar v && decide (apos.endLine = cpos.line)))))
    | _ => false)
  | .ext i e, S, st => (match st with
    | .Expr (.Call (.Attribute (.Name x _) n apos) [v] [] cpos) _ => decide (n = "extend") && (nmB T S i x && (mE T e S v && (notStar v && decide (apos.endLine = cpos.line))))
    | _ => false)
  | .popA j i, S, st => (match st with
    | .Assign [.Name y _] (.Call (.Attribute (.Name x _) n apos) [] [] cpos) _ => decide (n = "pop") && (nmB T S i x && (tgB T S j y && decide (apos.endLine = cpos.line)))
    | _ => false)
  | .popS j i k, S, st => (match st with
    | .Assign [.Name y _] (.Subscript (.Call (.Attribute (.Name x _) n apos) [] [] cpos) (.Constant (.int kk) _ _) _) _ => decide (n = "pop") && (decide (k = kk) && (nmB T S i x && (tgB T S j y && decide (apos.endLine = cpos.line))))
    | _ => false)
  | .setL i k e, S, st => (match st with
    | .Assign [.Subscript (.Name x _) (.UnaryOp .USub (.Constant (.int kk) _ _) _) _] v _ => decide (k = -kk) && (nmB T S i x && (noPk e && (mE T e S v && notComp v)))
    | _ => false)
  | .setK a k e, S, st => (match st with
    | .Assign [.Subscript u v _] w _ => noPk a && (noPk k && (noPk e && (mE T a S u && (mE T k S v && (mE T e S w && notComp w)))))
    | _ => false)
  | .setC2 a i j d e, S, st => (match st with
    | .Assign [.Tuple [.Subscript u1 v1 _, .Subscript u2 v2 _] _ _] (.Tuple [x, y] _ _) _ => S.calm && (noPk a && (noPk i && (noPk j && (noPk d && (noPk e && (mE T a S u1 && (mE T a S u2 && (mE T i S v1 && (mE T j S v2 && (mE T d S x && (mE T e S y && (notStar x && (notStar y && (notSlice v1 && notSlice v2))))))))))))))
    | _ => false)
  | .setF i x e, S, _ => false
  | .setFs i xs e, S, _ => false
  | .frz i, S, st => false
  | .exp e, S, st => (match st with
    | .Expr v _ => noPk e && (mE T e S v && notComp v)
    | _ => false)
  | .ifs k t f, S, st => (match st with
    | .If v a b _ => noPk k && (mE T k S v && (mSs T t S a && mSs T f S b))
    | _ => false)
  | .fo t it b, S, st => (match st with
    | .For tg iter body [] _ => S.calm && (mTgt T S t tg && (notSet iter && (fzI it && (mI T it S tg iter && mSs T b S body))))
    | _ => false)
  | .whl n k b, S, st => (match st with
    | .While v body [] _ => noPk k && (mE T k S v && mSs T b S body)
    | _ => false)
  | .retE e, S, st => (match st with
    | .Return (some v) _ => noPk e && mE T e S v
    | _ => false)
  | .retO i, S, st => (match st with
    | .Return (some (.Name x _)) _ => nmB T S i x
    | _ => false)
  | .retN, S, st => (match st with
    | .Return none _ => true
    | _ => false)
  | .rse n, S, st => (match st with
    | .Raise (some (.Call (.Name x _) [.Constant (.str _) _ _] [] _)) none _ => S.calm && (decide (T.cs n = some x) && glB S x)
    | _ => false)
  | .trx b (some i) s, S, st => (match st with
    | .Try body [.ExceptHandler (some (.Name x _)) (some nm) (b0 :: suite) _] [] [] _ => S.calm && (S.top && (locN T S i nm && (glB S x && (decide (T.cs (T.cid x) = some x) &&
        (T.cn.all (fun n => T.sub n (T.cid x)) && (mSs T b S body && mSs T s (S.suite i) (b0 :: suite)))))))
    | _ => false)
  | .trx b none s, S, st => false
  | .stk, S, st => true
def mSs (T : Tb) : Py.Ss → Sc → List Stmt → Bool
  | .nil, S, sts => (match sts with
    | [] => true
    | _ => false)
  | .cons s r, S, sts => if isFrz s = true then mSs T r S sts else (match sts with
      | st :: sts => mS T s S st && mSs T r S sts
      | [] => false)
end
end PyS
end
section
namespace PyS
open PySem PySem.Spec PyProof.Rows L2
section
variable {c : Ct} {T : Tb} {L : Py.Lk} {S : Sc} {x : Expr} {m : Py.Env → Py.M Py.D} {k k' : Kd}
theorem Fine.bk (F : Fine c T L S) : c.X.env.blockKind = .function := by
  have h : c.X.env.scope.kind = .function := by rw [F.sc]; exact F.kind
  unfold PySem.Env.blockKind
  rw [h]
  rfl
theorem sw_eq {v : Expr} {x : Str} {p : Pos} {l : Nat} (F : Fine c T L S) (hv : notComp v = false → ∃ elt gens scope vp, v = .ListComp elt gens scope vp) : swapsWith v (some (.Name x p)) l c.X.env = pure (!notComp v && swB S v x p) := by
  cases hn : notComp v with
  | true => rw [comp_swaps hn]; rfl
  | false =>
    obtain ⟨elt, gens, scope, vp, rfl⟩ := hv hn
    unfold swapsWith swB
    simp only [F.bk, F.lk]
    congr 1
    cases h : S.sc.names.lookup x with
    | none => rfl
    | some kk => cases kk <;> rfl
/-- a comprehension, in its parts -/
structure CompOk (c : Ct) (v : Expr) (m : Py.Env → Py.M Py.D) : Prop where
  go : ∀ {i : Nat} {y : Str} {py spos : Pos}, c.X.N[i]? = some y → c.X.env.scope.names.lookup y = some .local → swapsWith v (some (.Name y py)) spos.line c.X.env = pure true →
    JS c (.Assign [.Name y py] v spos) (fun r => Py.bndE r (m r) fun d => Py.nextS (r.set i (.v d))) ∧
    JS c (.Assign [.Name y py] v spos) (fun r => Py.bndE r (Py.bnd (m r) fun d => Py.lif (Py.slotOf true d)) fun s => Py.nextS (r.set i s))
theorem sComp {e : Py.E} {v : Expr} (F : Fine c T L S) (h : mE T e S v = true) (hc : isComp e = true) : CompOk c v (Py.ev L e) := by
  cases e <;> first | (cases hc; done) | skip
  case cmp0 t it e =>
    simp only [mE] at h
    split at h
    · rename_i elt tg iter scope pos
      obtain ⟨h0, h⟩ := ba h
      obtain ⟨h1, h⟩ := ba h
      obtain ⟨h2, h⟩ := ba h
      obtain ⟨h3, h⟩ := ba h
      obtain ⟨h4, h⟩ := ba h
      obtain ⟨h5, h6⟩ := ba h
      have bk := blk_ok F h1
      exact ⟨fun hy hl hs => js_asgLc (F.calm h0).1 F.ndX hy hl hs (sI it (fz := false) F (fun z => by cases z) h4) bk (own_is T t) (fun s H C cl fp => sTgt (F.blk h0 bk.kind s H C cl fp) h2)
        (mt := fun _ => Py.ret true) (me := Py.ev L e) (fun s H C cl fp => ⟨fun pins s σ H Q I q => pts_nil.run pins s σ H Q I (tT.ret q)⟩) (fun s H C cl fp => tE_blk ((sE e (F.blk h0 bk.kind s H C cl fp) h6).val (nb h5)).je) (set_fold h3) rfl⟩
    · cases h
  case cmpi t it q e =>
    simp only [mE] at h
    split at h
    · rename_i elt tg iter cd scope pos
      obtain ⟨h0, h⟩ := ba h
      obtain ⟨h1, h⟩ := ba h
      obtain ⟨h2, h⟩ := ba h
      obtain ⟨h3, h⟩ := ba h
      obtain ⟨h4, h⟩ := ba h
      obtain ⟨h5, h⟩ := ba h
      obtain ⟨h6, h⟩ := ba h
      obtain ⟨h7, h8⟩ := ba h
      have bk := blk_ok F h1
      refine ⟨fun hy hl hs => js_asgLc (F.calm h0).1 F.ndX hy hl hs (sI it (fz := false) F (fun z => by cases z) h4) bk (own_is T t) (fun s H C cl fp => sTgt (F.blk h0 bk.kind s H C cl fp) h2)
        (mt := asT (Py.ev L q)) (me := Py.ev L e) (fun s H C cl fp => pts_one (tT_blk ((sE q (F.blk h0 bk.kind s H C cl fp) h8).val (nb h7)).jt)) (fun s H C cl fp => tE_blk ((sE e (F.blk h0 bk.kind s H C cl fp) h6).val (nb h5)).je) (set_fold h3) ?_⟩
      funext r
      have e1 : (fun x => Py.noexc (Py.bnd (Py.lif (Py.bindT (Py.wipeT r t) t x)) fun r' => Py.bnd (Py.ev L q r') fun k => Py.bnd (Py.lif (Py.tru k)) fun k => if k = true then Py.bnd (Py.ev L e r') fun y => Py.ret (some y) else Py.ret none)) = cStep t (asT (Py.ev L q)) (Py.ev L e) r := funext fun x => cmpi_eq x
      show Py.bnd (Py.evi L it r) (fun xs => Py.bnd (Py.compM xs (fun x => Py.noexc (Py.bnd (Py.lif (Py.bindT (Py.wipeT r t) t x)) fun r' => Py.bnd (Py.ev L q r') fun k => Py.bnd (Py.lif (Py.tru k)) fun k => if k = true then Py.bnd (Py.ev L e r') fun y => Py.ret (some y) else Py.ret none))) fun ys => Py.ret (Py.D.lst ys)) = _
      rw [e1]
    · cases h
theorem comp_lc {e : Py.E} {v : Expr} (h : mE T e S v = true) (hn : notComp v = false) : ∃ elt gens scope vp, v = .ListComp elt gens scope vp := by
  cases v <;> first | (cases hn; done) | skip
  case ListComp => exact ⟨_, _, _, _, rfl⟩
  all_goals
    exfalso
    cases e <;> simp only [mE] at h <;> first | (cases h; done) | skip
    case cst d => cases d <;> cases h
    all_goals (split at h <;> cases h)
/-- x = value -/
theorem s_asg {i : Nat} {e : Py.E} {x : Str} {p pos : Pos} {v : Expr} (F : Fine c T L S) (h1 : tgB T S i x = true) (h2 : noPk e = true) (h3 : mE T e S v = true) (h4 : swOk S e v x p = true) :
    JS c (.Assign [.Name x p] v pos) (fun r => Py.bndE r (Py.ev L e r) fun d => Py.nextS (r.set i (.v d))) := by
  obtain ⟨g1, g2, g3⟩ := F.tgB h1
  have hs := sw_eq (p := p) (l := pos.line) (x := x) F (comp_lc h3)
  cases hb : (!notComp v && swB S v x p) with
  | false =>
    rw [hb] at hs
    exact js_asg F.ndX g1 g2 ((sE e F h3).val (nb h2)).je hs g3
  | true =>
    rw [hb] at hs
    obtain ⟨k1, k2⟩ := ba hb
    unfold swOk at h4
    rw [nb k1, k2] at h4
    obtain ⟨h5, h6⟩ := ba (show (S.calm && (isComp e && decide (S.sc.names.lookup x = some .local))) = true from h4)
    obtain ⟨h6, h7⟩ := ba h6
    exact ((sComp F h3 h6).go g1 (by rw [F.sc]; exact of_decide_eq_true h7) hs).1
theorem s_own {i : Nat} {e : Py.E} {x : Str} {p pos : Pos} {v : Expr} (F : Fine c T L S) (h1 : tgB T S i x = true) (h2 : isFrs e = true) (h3 : mE T e S v = true) (h4 : swOk S e v x p = true) :
    JS c (.Assign [.Name x p] v pos) (fun r => Py.bndE r (Py.bnd (Py.ev L e r) fun d => Py.lif (Py.slotOf true d)) fun s => Py.nextS (r.set i s)) := by
  obtain ⟨g1, g2, g3⟩ := F.tgB h1
  have hs := sw_eq (p := p) (l := pos.line) (x := x) F (comp_lc h3)
  cases hb : (!notComp v && swB S v x p) with
  | false =>
    rw [hb] at hs
    have je := (sE e F h3).je
    rw [frs_is h2] at je
    exact js_own F.ndX g1 g2 je hs g3
  | true =>
    rw [hb] at hs
    obtain ⟨k1, k2⟩ := ba hb
    unfold swOk at h4
    rw [nb k1, k2] at h4
    obtain ⟨h5, h6⟩ := ba (show (S.calm && (isComp e && decide (S.sc.names.lookup x = some .local))) = true from h4)
    obtain ⟨h6, h7⟩ := ba h6
    exact ((sComp F h3 h6).go g1 (by rw [F.sc]; exact of_decide_eq_true h7) hs).2
/-! ### a, b = .. -/
theorem Fine.locN {i : Nat} {x : Str} (F : Fine c T L S) (h : locN T S i x = true) : c.X.N[i]? = some x ∧ c.X.env.scope.names.lookup x = some .local := by
  obtain ⟨h1, h2⟩ := ba h
  exact ⟨by rw [F.N]; exact of_decide_eq_true h1, by rw [F.sc]; exact of_decide_eq_true h2⟩
theorem parK_fits : ∀ {ts : List (Bool × Nat)} {es : Py.Es}, parK ts es = true → fits es (pKs ts)
  | [], .nil, _ => trivial
  | [], .cons _ _, h => by cases h
  | (b, i) :: ts, .nil, h => by cases h
  | (b, i) :: ts, .cons e r, h => by
    obtain ⟨h1, h2⟩ := ba h
    refine ⟨?_, parK_fits h2⟩
    cases b with
    | true => exact .inl (frs_is h1).symm
    | false =>
      have h1 : noPk e = true := h1
      unfold noPk at h1
      show Fits (kd e) .val
      cases hk : kd e with
      | val => exact .inl rfl
      | frs => exact .inr ⟨rfl, rfl⟩
      | pk i => rw [hk] at h1; cases h1
theorem mEs_star : ∀ {es : Py.Es} {xs : List Expr}, mEs T es S xs = true → xs.all notStar = true
  | .nil, [], _ => rfl
  | .nil, _ :: _, h => by simp [mEs] at h
  | .cons e r, [], h => by simp [mEs] at h
  | .cons e r, x :: xs, h => by
    simp only [mEs] at h
    obtain ⟨h1, h⟩ := ba h
    obtain ⟨_, h⟩ := ba h
    show (notStar x && xs.all notStar) = true
    rw [h1, mEs_star h]
    rfl
theorem star_no : ∀ {vs : List Expr}, vs.all notStar = true → (vs.any fun | .Starred .. => true | _ => false) = false
  | [], _ => rfl
  | v :: vs, h => by
    obtain ⟨h1, h2⟩ := ba (show (notStar v && vs.all notStar) = true from h)
    rw [List.any_cons, star_no h2]
    cases v <;> first | rfl | cases h1
theorem not_star {v : Expr} (h : notStar v = true) : (match v with | .Starred .. => true | _ => false) = false := by cases v <;> first | rfl | cases h
theorem er2 {x y : Str} (hxy : x ≠ y) : ([x, y].eraseDups).length = 2 := by
  have h1 : (y == x) = false := by simp [Ne.symm hxy]
  have h2 : (x == y) = false := by simp [hxy]
  simp [List.eraseDups, List.eraseDupsBy, List.eraseDupsBy.loop, h1, h2]
theorem er3 {x y z : Str} (hxy : x ≠ y) (hxz : x ≠ z) (hyz : y ≠ z) : ([x, y, z].eraseDups).length = 3 := by
  have h1 : (y == x) = false := by simp [Ne.symm hxy]
  have h2 : (x == y) = false := by simp [hxy]
  have h3 : (z == x) = false := by simp [Ne.symm hxz]
  have h4 : (x == z) = false := by simp [hxz]
  have h5 : (z == y) = false := by simp [Ne.symm hyz]
  have h6 : (y == z) = false := by simp [hyz]
  simp [List.eraseDups, List.eraseDupsBy, List.eraseDupsBy.loop, h1, h2, h3, h4, h5, h6]
theorem sw2 {x y : Str} {px py pt pt2 : Pos} {kt k2 : Nat} {e f : Expr} (F : Fine c T L S) (hx : S.sc.names.lookup x = some .local) (hy : S.sc.names.lookup y = some .local) (hl : (px.line == py.line) = true) (hxy : x ≠ y) (hst : [e, f].all notStar = true) (h1 : [e, f].all (foldedForSure 8) = false) (h2 : [e, f].all (constantsAlone 8) = false) :
    swappedStores [.Tuple [.Name x px, .Name y py] kt pt] (.Tuple [e, f] k2 pt2) c.X.env = pure (some [x, y]) := by
  have hl' : py.line = px.line := (eq_of_beq hl).symm
  have hb : (c.X.env.blockKind != .function) = false := by rw [F.bk]; rfl
  have hlk : ∀ z, c.X.env.kindOf z = S.sc.names.lookup z := F.lk
  obtain ⟨s1, s2⟩ := ba (show (notStar e && [f].all notStar) = true from hst)
  obtain ⟨s2, _⟩ := ba (show (notStar f && [].all notStar) = true from s2)
  unfold swappedStores
  simp only [List.length_cons, List.length_nil, hb, star_no hst, h1, h2]
  simp [hlk, hx, hy, List.filterMap_cons, hl', Expr.pos, er2 hxy]
  intro h
  exfalso
  rcases h with h | h
  · cases e <;> first | (cases h; done) | cases s1
  · cases f <;> first | (cases h; done) | cases s2
theorem sw3 {x y z : Str} {px py pz pt pt2 : Pos} {kt k2 : Nat} {e f g : Expr} (F : Fine c T L S) (hx : S.sc.names.lookup x = some .local) (hy : S.sc.names.lookup y = some .local) (hz : S.sc.names.lookup z = some .local) (hl : (px.line == py.line) = true) (hl2 : (px.line == pz.line) = true) (hxy : x ≠ y) (hxz : x ≠ z) (hyz : y ≠ z)
    (hst : [e, f, g].all notStar = true) (h1 : [e, f, g].all (foldedForSure 8) = false) (h2 : [e, f, g].all (constantsAlone 8) = false) :
    swappedStores [.Tuple [.Name x px, .Name y py, .Name z pz] kt pt] (.Tuple [e, f, g] k2 pt2) c.X.env = pure (some [x, y, z]) := by
  have hl' : py.line = px.line := (eq_of_beq hl).symm
  have hl2' : pz.line = px.line := (eq_of_beq hl2).symm
  have hb : (c.X.env.blockKind != .function) = false := by rw [F.bk]; rfl
  have hlk : ∀ z, c.X.env.kindOf z = S.sc.names.lookup z := F.lk
  obtain ⟨s1, s2⟩ := ba (show (notStar e && [f, g].all notStar) = true from hst)
  obtain ⟨s2, s3⟩ := ba (show (notStar f && [g].all notStar) = true from s2)
  obtain ⟨s3, _⟩ := ba (show (notStar g && [].all notStar) = true from s3)
  unfold swappedStores
  simp only [List.length_cons, List.length_nil, hb, star_no hst, h1, h2]
  simp [hlk, hx, hy, hz, List.filterMap_cons, hl', hl2', Expr.pos, er3 hxy hxz hyz]
  intro h
  exfalso
  rcases h with h | h | h
  · cases e <;> first | (cases h; done) | cases s1
  · cases f <;> first | (cases h; done) | cases s2
  · cases g <;> first | (cases h; done) | cases s3
theorem sw0 {ts vs : List Expr} {kt k2 : Nat} {pt pt2 : Pos} {env : PySem.Env} (h : (ts.length == 2 || ts.length == 3) = false) : swappedStores [.Tuple ts kt pt] (.Tuple vs k2 pt2) env = pure none := by
  unfold swappedStores
  simp only [h]
  rfl
theorem swF {ts vs : List Expr} {kt k2 : Nat} {pt pt2 : Pos} {env : PySem.Env} (h : vs.all (foldedForSure 8) = true) : swappedStores [.Tuple ts kt pt] (.Tuple vs k2 pt2) env = pure none := by
  unfold swappedStores
  simp only [h]
  repeat' (first | rfl | split)
theorem swC2 {x y : Str} {px py pt pt2 : Pos} {kt k2 : Nat} {e f : Expr} (F : Fine c T L S) (h : swC S [(x, px), (y, py)] px.line = true) (hst : [e, f].all notStar = true) :
    swappedStores [.Tuple [.Name x px, .Name y py] kt pt] (.Tuple [e, f] k2 pt2) c.X.env = pure none := by
  have hb : (c.X.env.blockKind != .function) = false := by rw [F.bk]; rfl
  have hlk : ∀ z, c.X.env.kindOf z = S.sc.names.lookup z := F.lk
  unfold swC at h
  unfold swappedStores
  simp only [List.length_cons, List.length_nil, hb, star_no hst]
  by_cases a : S.sc.names.lookup x = some .local <;> by_cases b : S.sc.names.lookup y = some .local <;> by_cases l : py.line = px.line <;> simp [hlk, a, b, l, List.filterMap_cons, Expr.pos] at h ⊢
theorem swC3 {x y z : Str} {px py pz pt pt2 : Pos} {kt k2 : Nat} {e f g : Expr} (F : Fine c T L S) (h : swC S [(x, px), (y, py), (z, pz)] px.line = true) (hst : [e, f, g].all notStar = true) :
    swappedStores [.Tuple [.Name x px, .Name y py, .Name z pz] kt pt] (.Tuple [e, f, g] k2 pt2) c.X.env = pure none := by
  have hb : (c.X.env.blockKind != .function) = false := by rw [F.bk]; rfl
  have hlk : ∀ z, c.X.env.kindOf z = S.sc.names.lookup z := F.lk
  unfold swC at h
  unfold swappedStores
  simp only [List.length_cons, List.length_nil, hb, star_no hst]
  by_cases a : S.sc.names.lookup x = some .local <;> by_cases b : S.sc.names.lookup y = some .local <;> by_cases d : S.sc.names.lookup z = some .local <;> by_cases l : py.line = px.line <;> by_cases l2 : pz.line = px.line <;> simp [hlk, a, b, d, l, l2, List.filterMap_cons, Expr.pos] at h ⊢
theorem sw_tup {ts : List Expr} {v : Expr} {kt : Nat} {pt : Pos} {env : PySem.Env} (h : notTup v = true) : swappedStores [.Tuple ts kt pt] v env = pure none := by cases v <;> first | rfl | cases h
theorem sw_sub {o i : Expr} {p : Pos} {v : Expr} {env : PySem.Env} : swappedStores [.Subscript o i p] v env = pure none := by cases v <;> rfl
theorem sole_sub {o i : Expr} {p : Pos} {v : Expr} {l : Nat} {env : PySem.Env} (h : notComp v = true) : swapsWithSole [.Subscript o i p] v l env = pure false := by cases v <;> first | rfl | cases h
theorem sole_tup {ts : List Expr} {v : Expr} {kt : Nat} {pt : Pos} {l : Nat} {env : PySem.Env} : swapsWithSole [.Tuple ts kt pt] v l env = pure false := by cases v <;> rfl
theorem asg_sub {o i : Expr} {p : Pos} {env : PySem.Env} (h : notSlice i = true) : ∀ v, assign (.Subscript o i p) env v = (do
      let ov ← holding [v] (eval o env)
      let iv ← holding [v, ov] (eval i env)
      standAt p
      holding [v, ov, iv] (setItem ov iv v)
      release [v, ov, iv] []) := by cases i <;> first | exact fun _ => rfl | cases h
theorem sw_sub2 {a1 i1 a2 i2 e f : Expr} {p1 p2 pt pt2 : Pos} {kt k2 : Nat} {env : PySem.Env} : swappedStores [.Tuple [.Subscript a1 i1 p1, .Subscript a2 i2 p2] kt pt] (.Tuple [e, f] k2 pt2) env = pure none := by
  unfold swappedStores
  simp only [List.filterMap_cons, List.filterMap_nil, List.length_cons, List.length_nil]
  repeat' (first | rfl | split)
end
end PyS
end
section
namespace PyS
open PySem PySem.Spec PyProof.Rows L2
theorem Fine.trd {c : Ct} {T : Tb} {L : Py.Lk} {S : Sc} (F : Fine c T L S) (ht : S.top = true) {W : WX} {pn : List (Addr × Obj)} {xe : Value → Shared → Prop} (tk : Takes (c.X.tr pn xe) W) (po : PassesOwn (model c.X.prog c.X.w) c.X.A c.X.env xe) :
    Fine (c.trd (c.X.tr pn xe) W) T L S where
  sc := F.sc
  N := F.N
  nd := F.nd
  fn := F.fn
  un := F.un
  po := po
  tk := tk
  calm := F.calm
  bl := F.bl
  df := fun i x n h => let ⟨a, h1, h2, h3⟩ := F.df i x n h; ⟨a, h1, h2, fun z => ⟨(h3 z).ok, (h3 z).kp⟩⟩
  fa := F.fa
  ln := F.ln
  gl := F.gl
  cl := F.cl
  sub := F.sub
  ec := F.ec
  eb := F.eb
  top := F.top
  hot := fun i h => by rw [F.th ht] at h; cases h
  kind := F.kind
  sb := F.sb
  th := F.th
theorem jss_frz' {c : Ct} {L : Py.Lk} {s : Py.S} {sts : List Stmt} {m2 : Py.Env → Py.SM} (h : isFrz s = true) (h2 : JSs c sts m2) : JSs c sts (fun r => Py.seqS (Py.evS L s r) m2) := by
  cases s <;> first | (cases h; done) | exact jss_frz h2
theorem Fine.hotC {c : Ct} {T : Tb} {L : Py.Lk} {S : Sc} (F : Fine c T L S) {i n : Nat} {a C1 : Addr} {oe : Obj} {pn : List (Addr × Obj)} (he : c.eA n = some C1) (hz : Zc (.ref C1) none oe) (hf : ∃ vs, oe.data = .fields vs) :
    Fine (c.hot (c.X.suite a ((a, oe) :: pn)) (some (i, a, n))) T L (S.suite i) where
  sc := F.sc
  N := F.N
  nd := F.nd
  fn := F.fn
  un := F.un
  po := PassesOwn.never
  tk := takes0
  calm := fun z => by cases z
  bl := F.bl
  df := fun i x n h => let ⟨a, h1, h2, h3⟩ := F.df i x n h; ⟨a, h1, h2, fun z => by cases z⟩
  fa := F.fa
  ln := F.ln
  gl := F.gl
  cl := F.cl
  sub := F.sub
  ec := F.ec
  eb := F.eb
  top := fun z => by cases z
  hot := fun j h => by
    cases h
    exact ⟨a, n, C1, rfl, he, call_isE (F.ec n C1 he) hz hf⟩
  kind := F.kind
  sb := F.sb
  th := fun z => by cases z
set_option maxHeartbeats 1000000
mutual
theorem sS {T : Tb} {L : Py.Lk} : ∀ (s : Py.S) {c : Ct} {S : Sc} {st : Stmt}, Fine c T L S → mS T s S st = true → JS c st (Py.evS L s)
  | .asg i e, c, S, st, F, h => by
    simp only [mS] at h
    split at h
    · obtain ⟨h1, h⟩ := ba h
      obtain ⟨h2, h⟩ := ba h
      obtain ⟨h3, h4⟩ := ba h
      exact s_asg F h1 h2 h3 h4
    · cases h
  | .own i e, c, S, st, F, h => by
    simp only [mS] at h
    split at h
    · obtain ⟨h1, h⟩ := ba h
      obtain ⟨h2, h⟩ := ba h
      obtain ⟨h3, h4⟩ := ba h
      exact s_own F h1 h2 h3 h4
    · cases h
  | .par ts es, c, S, st, F, h => by
    simp only [mS] at h
    obtain ⟨h0, h⟩ := ba h
    have hc := (F.calm h0).1
    split at h
    · rename_i tgs kt tp vs k2 tp2 pos
      split at h
      · rename_i b1 i b2 j x px y py e f
        split at h
        · rename_i hf
          obtain ⟨h1, h⟩ := ba h
          obtain ⟨h2, h⟩ := ba h
          obtain ⟨h3, h⟩ := ba h
          obtain ⟨h4, h5⟩ := ba h
          obtain rfl := nb h1
          obtain rfl := nb h2
          obtain ⟨k1, k2, k3⟩ := sTgs F h5
          have ja := sEs es F h4 _ (fits_vals h3)
          exact js_parN (is := [i, j]) hc ja (by rw [mEs_len h4]; show 2 ≤ 1000; decide) k1 k2 k3 (swF hf)
        · rename_i hf
          split at h
          · rename_i hsw
            obtain ⟨h3, h⟩ := ba h
            obtain ⟨h4, h5⟩ := ba h
            obtain ⟨k1, k2, k3⟩ := sTgs F h5
            have ja := sEs es F h4 _ (parK_fits h3)
            exact js_parO (ts := [(b1, i), (b2, j)]) hc ja (by show 2 ≤ 1000; decide) k1 k2 k3 (swC2 F hsw (mEs_star h4))
          obtain ⟨h1, h⟩ := ba h
          obtain ⟨h2, h⟩ := ba h
          obtain ⟨h3, h⟩ := ba h
          obtain ⟨h4, h⟩ := ba h
          obtain ⟨h5, h⟩ := ba h
          obtain ⟨h6, h⟩ := ba h
          obtain ⟨h7, h8⟩ := ba h
          obtain ⟨g1, g2⟩ := F.locN h1
          obtain ⟨g3, g4⟩ := F.locN h2
          have ja := sEs es F h8 _ (parK_fits h7)
          exact js_par2 hc F.ndX g1 g3 (of_decide_eq_true h3) g2 g4 ja (sw2 F (by rw [← F.sc]; exact g2) (by rw [← F.sc]; exact g4) h4 (of_decide_eq_true h5) (mEs_star h8) (by simpa using hf) (nb h6))
      · rename_i b1 i b2 j b3 l x px y py z pz e f g
        split at h
        · rename_i hf
          obtain ⟨h1, h⟩ := ba h
          obtain ⟨h2, h⟩ := ba h
          obtain ⟨h2', h⟩ := ba h
          obtain ⟨h3, h⟩ := ba h
          obtain ⟨h4, h5⟩ := ba h
          obtain rfl := nb h1
          obtain rfl := nb h2
          obtain rfl := nb h2'
          obtain ⟨k1, k2, k3⟩ := sTgs F h5
          have ja := sEs es F h4 _ (fits_vals h3)
          exact js_parN (is := [i, j, l]) hc ja (by rw [mEs_len h4]; show 3 ≤ 1000; decide) k1 k2 k3 (swF hf)
        · rename_i hf
          split at h
          · rename_i hsw
            obtain ⟨h3, h⟩ := ba h
            obtain ⟨h4, h5⟩ := ba h
            obtain ⟨k1, k2, k3⟩ := sTgs F h5
            have ja := sEs es F h4 _ (parK_fits h3)
            exact js_parO (ts := [(b1, i), (b2, j), (b3, l)]) hc ja (by show 3 ≤ 1000; decide) k1 k2 k3 (swC3 F hsw (mEs_star h4))
          obtain ⟨h1, h⟩ := ba h
          obtain ⟨h2, h⟩ := ba h
          obtain ⟨h2', h⟩ := ba h
          obtain ⟨h3, h⟩ := ba h
          obtain ⟨h3', h⟩ := ba h
          obtain ⟨h3'', h⟩ := ba h
          obtain ⟨h4, h⟩ := ba h
          obtain ⟨h4', h⟩ := ba h
          obtain ⟨h5, h⟩ := ba h
          obtain ⟨h5', h⟩ := ba h
          obtain ⟨h5'', h⟩ := ba h
          obtain ⟨h6, h⟩ := ba h
          obtain ⟨h7, h8⟩ := ba h
          obtain ⟨g1, g2⟩ := F.locN h1
          obtain ⟨g3, g4⟩ := F.locN h2
          obtain ⟨g5, g6⟩ := F.locN h2'
          have ja := sEs es F h8 _ (parK_fits h7)
          exact js_par3 hc F.ndX g1 g3 g5 (of_decide_eq_true h3) (of_decide_eq_true h3') (of_decide_eq_true h3'') g2 g4 g6 ja
            (sw3 F (by rw [← F.sc]; exact g2) (by rw [← F.sc]; exact g4) (by rw [← F.sc]; exact g6) h4 h4' (of_decide_eq_true h5) (of_decide_eq_true h5') (of_decide_eq_true h5'') (mEs_star h8) (by simpa using hf) (nb h6))
      · obtain ⟨h1, h⟩ := ba h
        obtain ⟨h2, h⟩ := ba h
        obtain ⟨h3, h⟩ := ba h
        obtain ⟨h4, h6⟩ := ba h
        obtain ⟨k1, k2, k3⟩ := sTgs F h6
        have ja := sEs es F h4 _ (parK_fits h3)
        exact js_parO hc ja (of_decide_eq_true h1) k1 k2 k3 (sw0 (nb h2))
    · cases h
  | .unp is e, c, S, st, F, h => by
    simp only [mS] at h
    split at h
    · obtain ⟨h0, h⟩ := ba h
      obtain ⟨h1, h⟩ := ba h
      obtain ⟨h2, h⟩ := ba h
      obtain ⟨h3, h4⟩ := ba h
      obtain ⟨k1, k2, k3⟩ := sTgs F h4
      exact js_unp (F.calm h0).1 ((sE e F h3).val (nb h2)).je k1 k2 k3 sole_tup (sw_tup h1)
    · cases h
  | .app i e, c, S, st, F, h => by
    simp only [mS] at h
    split at h
    · obtain ⟨h1, h⟩ := ba h
      obtain ⟨h2, h⟩ := ba h
      obtain ⟨h3, h⟩ := ba h
      obtain ⟨h4, h⟩ := ba h
      obtain ⟨h5, h6⟩ := ba h
      obtain ⟨g1, g2, g3, g4⟩ := F.nmB h2
      obtain rfl := of_decide_eq_true h1
      exact js_app g1 g2 g3 g4 ((sE e F h4).val (nb h3)).je (star_one h5) (by rw [of_decide_eq_true h6]; exact beq_self_eq_true _)
    · cases h
  | .ext i e, c, S, st, F, h => by
    simp only [mS] at h
    split at h
    · obtain ⟨h1, h⟩ := ba h
      obtain ⟨h2, h⟩ := ba h
      obtain ⟨h4, h⟩ := ba h
      obtain ⟨h5, h6⟩ := ba h
      obtain ⟨g1, g2, g3, g4⟩ := F.nmB h2
      obtain rfl := of_decide_eq_true h1
      exact js_ext g1 g2 g3 g4 (sE e F h4).je (star_one h5) (by rw [of_decide_eq_true h6]; exact beq_self_eq_true _)
    · cases h
  | .popA j i, c, S, st, F, h => by
    simp only [mS] at h
    split at h
    · obtain ⟨h1, h⟩ := ba h
      obtain ⟨h2, h⟩ := ba h
      obtain ⟨h4, h6⟩ := ba h
      obtain ⟨g1, g2, g3, g4⟩ := F.nmB h2
      obtain ⟨g5, g6, g7⟩ := F.tgB h4
      obtain rfl := of_decide_eq_true h1
      exact js_popA F.ndX g1 g2 g3 g4 g5 g6 g7 (by rw [of_decide_eq_true h6]; exact beq_self_eq_true _)
    · cases h
  | .popS j i k, c, S, st, F, h => by
    simp only [mS] at h
    split at h
    · obtain ⟨h1, h⟩ := ba h
      obtain ⟨h0, h⟩ := ba h
      obtain ⟨h2, h⟩ := ba h
      obtain ⟨h4, h6⟩ := ba h
      obtain ⟨g1, g2, g3, g4⟩ := F.nmB h2
      obtain ⟨g5, g6, g7⟩ := F.tgB h4
      obtain rfl := of_decide_eq_true h1
      obtain rfl := of_decide_eq_true h0
      exact js_popS F.ndX g1 g2 g3 g4 g5 g6 g7 (by rw [of_decide_eq_true h6]; exact beq_self_eq_true _)
    · cases h
  | .setL i k e, c, S, st, F, h => by
    simp only [mS] at h
    split at h
    · obtain ⟨h1, h⟩ := ba h
      obtain ⟨h2, h⟩ := ba h
      obtain ⟨h3, h⟩ := ba h
      obtain ⟨h4, h6⟩ := ba h
      obtain ⟨g1, g2, g3, g4⟩ := F.nmB h2
      obtain rfl := of_decide_eq_true h1
      exact js_setL g1 g2 g3 g4 pe_negC ((sE e F h4).val (nb h3)).je (fun _ => rfl) (sole_sub h6) sw_sub
    · cases h
  | .setK a k e, c, S, st, F, h => by
    simp only [mS] at h
    split at h
    · obtain ⟨h1, h⟩ := ba h
      obtain ⟨h2, h⟩ := ba h
      obtain ⟨h3, h⟩ := ba h
      obtain ⟨h4, h⟩ := ba h
      obtain ⟨h5, h⟩ := ba h
      obtain ⟨h6, h7⟩ := ba h
      exact js_setK (Nat.lt_of_le_of_lt (Nat.add_le_add_left (by decide) _) F.un) ((sE a F h4).val (nb h1)).je ((sE k F h5).val (nb h2)).je ((sE e F h6).val (nb h3)).je (comp_swaps h7)
    · cases h
  | .setC2 a i j d e, c, S, st, F, h => by
    simp only [mS] at h
    split at h
    · obtain ⟨h0, h⟩ := ba h
      obtain ⟨h1, h⟩ := ba h
      obtain ⟨h2, h⟩ := ba h
      obtain ⟨h3, h⟩ := ba h
      obtain ⟨h4, h⟩ := ba h
      obtain ⟨h5, h⟩ := ba h
      obtain ⟨h6, h⟩ := ba h
      obtain ⟨h7, h⟩ := ba h
      obtain ⟨h8, h⟩ := ba h
      obtain ⟨h9, h⟩ := ba h
      obtain ⟨h10, h⟩ := ba h
      obtain ⟨h11, h⟩ := ba h
      obtain ⟨h12, h⟩ := ba h
      obtain ⟨h13, h⟩ := ba h
      obtain ⟨h14, h15⟩ := ba h
      refine PS.imp (js_setC2 (F.calm h0).1 ((sE a F h6).val (nb h1)).je ((sE a F h7).val (nb h1)).je ((sE i F h8).val (nb h2)).je ((sE j F h9).val (nb h3)).je ((sE d F h10).val (nb h4)).je ((sE e F h11).val (nb h5)).je (star_cons h12) (star_one h13) (asg_sub h14) (asg_sub h15) rfl rfl rfl rfl rfl sw_sub2) fun D σ H q => ?_
      have e1 : Py.evS L (.setC2 a i j d e) = fun r => Py.bndE r (Py.bnd (Py.ev L d r) fun d => Py.bnd (Py.ev L e r) fun e => Py.bnd (Py.ev L a r) fun o => Py.bnd (Py.ev L i r) fun y => Py.bnd (cellSet o y d) fun _ => Py.bnd (Py.ev L a r) fun o => Py.bnd (Py.ev L j r) fun y => cellSet o y e) fun _ => Py.nextS r := by
        funext r
        rw [Py.evS]
        simp only [cellSet, Py.bnd_bnd]
      rw [e1] at q
      exact q
    · cases h
  | .setF _ _ _, c, S, st, F, h => by simp only [mS] at h; cases h
  | .setFs _ _ _, c, S, st, F, h => by simp only [mS] at h; cases h
  | .frz i, c, S, st, F, h => by simp only [mS] at h; cases h
  | .exp e, c, S, st, F, h => by
    simp only [mS] at h
    split at h
    · obtain ⟨h1, h⟩ := ba h
      obtain ⟨h2, h3⟩ := ba h
      exact js_exp ((sE e F h2).val (nb h1)).je (comp_swaps h3)
    · cases h
  | .ifs k t f, c, S, st, F, h => by
    simp only [mS] at h
    split at h
    · obtain ⟨h1, h⟩ := ba h
      obtain ⟨h2, h⟩ := ba h
      obtain ⟨h3, h4⟩ := ba h
      exact js_if ((sE k F h2).val (nb h1)) (sSs t F h3) (sSs f F h4)
    · cases h
  | .fo t it b, c, S, st, F, h => by
    simp only [mS] at h
    split at h
    · obtain ⟨h0, h⟩ := ba h
      obtain ⟨h1, h⟩ := ba h
      obtain ⟨h2, h⟩ := ba h
      obtain ⟨h3, h⟩ := ba h
      obtain ⟨h4, h5⟩ := ba h
      exact js_for F.po (F.calm h0).1 (sI it F (fun _ => h3) h4) (sTgt F h1) (sSs b F h5) (set_fold h2)
    · cases h
  | .whl n k b, c, S, st, F, h => by
    simp only [mS] at h
    split at h
    · obtain ⟨h1, h⟩ := ba h
      obtain ⟨h2, h3⟩ := ba h
      exact js_while F.po ((sE k F h2).val (nb h1)) (sSs b F h3)
    · cases h
  | .retE e, c, S, st, F, h => by
    simp only [mS] at h
    split at h
    · obtain ⟨h1, h2⟩ := ba h
      exact js_ret ((sE e F h2).val (nb h1)).je
    · cases h
  | .retO i, c, S, st, F, h => by
    simp only [mS] at h
    split at h
    · obtain ⟨g1, g2, g3, g4⟩ := F.nmB h
      exact js_retO g1 g2 g3 g4
    · cases h
  | .retN, c, S, st, F, h => by
    simp only [mS] at h
    split at h
    · exact js_retN
    · cases h
  | .rse n, c, S, st, F, h => by
    simp only [mS] at h
    split at h
    · obtain ⟨h0, h⟩ := ba h
      obtain ⟨h1, h2⟩ := ba h
      obtain ⟨a, g1, g2, g3, g4, g5, g6⟩ := F.cl n _ (of_decide_eq_true h1)
      obtain ⟨g7, g8⟩ := F.glB h2
      exact js_rse (F.calm h0).1 F.tk g1 g3 g2 g4 g5 g6 g7 g8
    · cases h
  | .trx b (some i) s, c, S, st, F, h => by
    simp only [mS] at h
    split at h
    · rename_i body x np nm b0 suite pos' pos
      obtain ⟨h0, h⟩ := ba h
      obtain ⟨h1, h⟩ := ba h
      obtain ⟨h2, h⟩ := ba h
      obtain ⟨h3, h⟩ := ba h
      obtain ⟨h4, h⟩ := ba h
      obtain ⟨h5, h⟩ := ba h
      obtain ⟨h6, h7⟩ := ba h
      obtain ⟨t1, t2⟩ := F.top h1
      obtain ⟨g1, g2⟩ := F.locN h2
      obtain ⟨g3, g4⟩ := F.glB h3
      obtain ⟨C, k1, k2, _⟩ := F.cl _ _ (of_decide_eq_true h4)
      exact js_try t1 t2 F.ndX g1 g2 ⟨g3, g4, .inl k2⟩ F.tk (F.calm h0).2 (fun n a ha => by
        rw [(F.sub n _ a C ha k1).2, F.sb]
        rw [List.all_eq_true] at h5
        rw [h5 n (F.eb n a ha)]) (fun W pn xe tk po => sSs b (F.trd h1 tk po) h6) (fun a oe n C1 pn he hz hf => sSs s (F.hotC he hz hf) h7)
    · cases h
  | .trx b none s, c, S, st, F, h => by simp only [mS] at h; cases h
  | .stk, c, S, st, F, h => ⟨fun pins s σ H D I ⟨Z, η, ω, r, e, q⟩ => q.elim⟩
theorem sSs {T : Tb} {L : Py.Lk} : ∀ (ss : Py.Ss) {c : Ct} {S : Sc} {sts : List Stmt}, Fine c T L S → mSs T ss S sts = true → JSs c sts (Py.evSs L ss)
  | .nil, c, S, sts, F, h => by
    simp only [mSs] at h
    split at h
    · exact jss_nil
    · cases h
  | .cons s r, c, S, sts, F, h => by
    simp only [mSs] at h
    split at h
    · rename_i hz
      exact jss_frz' hz (sSs r F h)
    · split at h
      · obtain ⟨h1, h2⟩ := ba h
        exact jss_cons (sS s F h1) (sSs r F h2)
      · cases h
end
end PyS
end
section
namespace PyS
open PySem PySem.Spec PyProof.Rows L2
/-! ### the whole text: every def keeps its promise -/
structure PD where
  id : Nat
  name : Str
  N : List Str
  st : Stmt
  fd : Py.Fd
structure PT where
  ds : List PD
  gs : List (Nat × Str × Py.D)
  cs : List (Nat × Str)
  bl : List Str
  prog : Py.Prog
def PT.look (p : PT) (i : Nat) : Option PD := p.ds.find? fun d => d.id == i
def PT.gl (p : PT) (i : Nat) : Option (Nat × Str × Py.D) := p.gs.find? fun y => y.1 == i
def PT.cl (p : PT) (i : Nat) : Option Str := (p.cs.find? fun y => y.1 == i).map (·.2)
structure PT.fits (p : PT) : Prop where
  df : ∀ d ∈ p.ds, p.prog.defs d.id = some d.fd
  gl : ∀ y ∈ p.gs, p.prog.g y.1 = y.2.2
theorem PT.look_mem {p : PT} {i : Nat} {d : PD} (h : p.look i = some d) : d ∈ p.ds := List.mem_of_find?_eq_some h
theorem PT.look_id {p : PT} {i : Nat} {d : PD} (h : p.look i = some d) : d.id = i := by
  have := List.find?_some h
  exact eq_of_beq this
theorem PT.gl_mem {p : PT} {i : Nat} {y : Nat × Str × Py.D} (h : p.gl i = some y) : y ∈ p.gs := List.mem_of_find?_eq_some h
theorem PT.gl_id {p : PT} {i : Nat} {y : Nat × Str × Py.D} (h : p.gl i = some y) : y.1 = i := by
  have := List.find?_some h
  exact eq_of_beq this
theorem PT.cl_mem {p : PT} {n : Nat} {x : Str} (h : p.cl n = some x) : (n, x) ∈ p.cs := by
  obtain ⟨⟨m, y⟩, h1, rfl⟩ := Option.map_eq_some_iff.mp h
  have h2 := List.find?_some h1
  have e : m = n := eq_of_beq h2
  subst e
  exact List.mem_of_find?_eq_some h1
def PD.ps (d : PD) : List Str := d.N.take d.fd.np
def PT.tb (p : PT) (N : List Str) : Tb := ⟨N, fun i => (p.look i).map fun d => (d.name, d.fd.np), fun i => (p.gl i).map (·.2.1), p.cl, p.cs.map (·.1), p.bl, p.prog.sub⟩
def scOf (st : Stmt) : Sc := ⟨defScope st, fun _ => true, true, true, none⟩
def scB (N P : List Str) (sc : Scope) : Bool :=
  decide (sc.kind = .function) && (!sc.isCoroutine && (!sc.isGenerator && (decide N.Nodup && (decide (N.take P.length = P) && (P.all (fun x => decide (sc.names.lookup x = some .local) || decide (sc.names.lookup x = some .cell)) && sc.names.all (fun y => !decide (y.2 = .free)))))))
theorem scB_ok {N P : List Str} {sc : Scope} (h : scB N P sc = true) : FnScope N P sc := by
  obtain ⟨h1, h⟩ := ba h
  obtain ⟨h2, h⟩ := ba h
  obtain ⟨h3, h⟩ := ba h
  obtain ⟨h4, h⟩ := ba h
  obtain ⟨h5, h⟩ := ba h
  obtain ⟨h6, h7⟩ := ba h
  rw [List.all_eq_true] at h6 h7
  refine ⟨of_decide_eq_true h1, nb h2, nb h3, of_decide_eq_true h4, of_decide_eq_true h5, fun x hx => ?_, fun y hy => ?_⟩
  · have := h6 x hx
    simpa using this
  · have := h7 y hy
    simpa using this
def PD.ok (p : PT) (d : PD) : Bool := scB d.N d.ps (defScope d.st) && (decide (d.fd.np ≤ d.N.length) && (decide (d.fd.nn = d.N.length) && mSs (p.tb d.N) d.fd.body (scOf d.st) (defBody d.st)))
structure Base (p : PT) (K : PySem.W.Frag) (mg : Str → Option Value) (fA : Ad) (eA : Nat → Option Addr) : Prop where
  df : ∀ (i : Nat) (d : PD), p.look i = some d → ∃ a fd, fA.f i = some a ∧ mg d.name = some (.ref a) ∧ FunD K d.name d.name (defArgs d.st) (defBody d.st) (defScope d.st) [] [] a fd ∧ Binds K fd d.ps []
  fa : ∀ (i : Nat) a, fA.f i = some a → ∃ d, p.look i = some d
  gl : ∀ (i : Nat) y, p.gl i = some y → ∃ v u, mg y.2.1 = some u ∧ RelV v u ∧ ∀ H Z η, Rep K fA H Z η v y.2.2
  bl : ∀ x ∈ p.bl, mg x = none
  cl : ∀ (n : Nat) x, p.cl n = some x → ∃ a, eA n = some a ∧ mg x = some (.ref a) ∧ PySem.W.excIn K a He.veBase "ValueError.__new__" = true ∧ PySem.W.keepIn K (.ref a) = true ∧ PySem.W.subIn K (.ref a) (.type "BaseException") = some true ∧ PySem.W.typeIn K (.ref a) = some (.type "type")
  sub : ∀ n m a b, eA n = some a → eA m = some b → PySem.W.kitOne K (.ref a) (.ref b) = some (p.prog.sub n m) ∧ PySem.W.exmOne K (.ref a) (.ref b) = some (p.prog.sub n m)
  ec : ∀ n a, eA n = some a → ExcC K a
  eb : ∀ n a, eA n = some a → n ∈ p.cs.map (·.1)
  ft : p.fits
section
variable {p : PT} {P : Program} {w : World} {K : PySem.W.Frag} {mg : Str → Option Value} {base : Heap} {fA : Ad} {eA : Nat → Option Addr}
theorem phi_len (p : PT) (ft : p.fits) : ∀ (k i : Nat) (d : PD) (ds : List Py.D) (ω : Py.Store), p.look i = some d → ds.length ≠ d.fd.np → Py.phi p.prog k i ds ω = .stuck
  | 0, i, d, ds, ω, h, hl => rfl
  | k + 1, i, d, ds, ω, h, hl => by
    have h1 : p.prog.defs i = some d.fd := by rw [← PT.look_id h]; exact ft.df d (PT.look_mem h)
    unfold Py.phi
    simp only [h1, Py.runF, if_neg hl]
    rfl
theorem ps_len {d : PD} (h : d.fd.np ≤ d.N.length) : d.ps.length = d.fd.np := by
  unfold PD.ps
  rw [List.length_take]
  omega
theorem env_start {c : Ct} {d : PD} {vs : List V} {ds : List Py.D} {H : Hp} {Z : Addr → Prop} {η : List Addr} {ω : Py.Store} (hH : c.H0 = H) (hZ : c.Z0 = Z) (hη : c.η0 = η) (hn : d.fd.nn = d.N.length) (w : WInv c.X.K c.fA H Z η ω) (rl : RepL c.X.K c.fA H Z η vs ds) : c.Env (L2.start d.N vs) (d.fd.env ds) H Z η ω := by
  subst hH hZ hη
  have hl : vs.length = ds.length := rl.length
  have no : ∀ (i : Nat) s, (d.fd.env ds)[i]? = some s → s = .none ∨ ∃ x, ds[i]? = some x ∧ s = .v x := fun i s h => by
    unfold Py.Fd.env at h
    by_cases hi : i < (ds.map Py.Slot.v).length
    · rw [List.getElem?_append_left hi, List.getElem?_map] at h
      obtain ⟨x, h1, h2⟩ := Option.map_eq_some_iff.mp h
      exact .inr ⟨x, h1, h2.symm⟩
    · rw [List.getElem?_append_right (by omega), List.getElem?_replicate] at h
      split at h
      · cases h; exact .inl rfl
      · cases h
  refine ⟨w, .refl, ⟨?_, fun i d h => ?_, fun i es h => ?_, fun i j es fs q h _ _ _ => ?_, fun i n h => ?_⟩⟩
  · unfold Py.Fd.env L2.start
    simp only [List.length_append, List.length_map, List.length_replicate]
    omega
  · rcases no i _ h with e | ⟨x, h1, h2⟩
    · cases e
    · cases h2
      obtain ⟨v, h3, h4⟩ := rl.get h1
      refine ⟨v, ?_, h4⟩
      unfold L2.start
      rw [List.getElem?_append_left (by rw [List.length_map]; exact (List.getElem?_eq_some_iff.mp h3).1), List.getElem?_map, h3]
      rfl
  · rcases no i _ h with e | ⟨x, h1, h2⟩
    · cases e
    · cases h2
  · rcases no i _ h with e | ⟨x, h1, h2⟩
    · cases e
    · cases h2
  · rcases no i _ h with e | ⟨x, h1, h2⟩
    · cases e
    · cases h2
theorem all_ok (B : Base p K mg fA eA) (hok : ∀ d ∈ p.ds, d.ok p = true) : ∀ (k i : Nat) (d : PD) (a : Addr) (fd : FuncData), p.look i = some d → FunD K d.name d.name (defArgs d.st) (defBody d.st) (defScope d.st) [] [] a fd →
    FnOk P w K mg base (L2.CX P w) k a fd d.ps (spF K fA eA d.fd.np (Py.phi p.prog k i))
  | 0, i, d, a, fd, hd, F => ⟨fun vs H Q E h => by
      obtain ⟨_, Z, η, ω, ds, _, _, hm⟩ := h
      exact hm.elim, fun A outer s H args us vs Q E _ _ _ _ h => by
      obtain ⟨_, Z, η, ω, ds, _, _, hm⟩ := h
      exact hm.elim⟩
  | k + 1, i, d, a, fd, hd, F => by
    obtain ⟨o1, o⟩ := ba (hok d (PT.look_mem hd))
    obtain ⟨o2, o⟩ := ba o
    obtain ⟨o3, o4⟩ := ba o
    have o2 := of_decide_eq_true o2
    have o3 := of_decide_eq_true o3
    have S := scB_ok o1
    have hdef : p.prog.defs i = some d.fd := by rw [← PT.look_id hd]; exact B.ft.df d (PT.look_mem hd)
    refine F.ok S (fun vs H Q E h => by rw [ps_len o2]; exact h.1) fun cdv A outer s H vs Q E hr h => ?_
    obtain ⟨hl, Z, η, ω, ds, wi, rl, hm⟩ := h
    let X : Cx := cxOf (L2.CX P w) P w K mg base d.N d.name (defScope d.st) a cdv A outer s H E
    let c : Ct := { X := X, fA := fA, eA := eA, W := fun cls dd _ H' => E cls dd H', H0 := H, Z0 := Z, η0 := η, xa := none }
    let L : Py.Lk := ⟨Py.phi p.prog k, p.prog.g, p.prog.sub, p.prog.ini, p.prog.mt⟩
    have fn : Fine c (p.tb d.N) L (scOf d.st) := {
      sc := rfl
      N := rfl
      nd := S.nd
      fn := rfl
      un := by have := hr.un; show (A.deeper _).units + 65 < cLine; omega
      po := passes_of (X := X) (K := fun e s'' => L2.CX P w outer H s E e s'') (E₁ := fun e' s'' => L2.CX P w outer H s E e' s'') rfl
      tk := takes_of (X := X) (E := E) (E₁ := fun e' s'' => L2.CX P w outer H s E e' s'') rfl rfl rfl rfl
      calm := fun _ => ⟨rfl, rfl⟩
      bl := B.bl
      df := fun j x n hj => by
        have hj : (p.look j).map (fun d => (d.name, d.fd.np)) = some (x, n) := hj
        obtain ⟨d', h1, h2⟩ := Option.map_eq_some_iff.mp hj
        cases h2
        obtain ⟨a', fd', h3, h4, h5, h6⟩ := B.df j d' h1
        exact ⟨a', h3, h4, fun _ => ⟨⟨k, fd', d'.ps, all_ok B hok k j d' a' fd' h1 h5, hr, h6⟩, h5.kp⟩⟩
      fa := fun j a' hj => by
        obtain ⟨dj, hlt⟩ := B.fa j a' hj
        obtain ⟨a2, fd', h3, h4, _⟩ := B.df j _ hlt
        have h3' : fA.f j = some a2 := h3
        have hj' : fA.f j = some a' := hj
        rw [hj'] at h3'
        cases h3'
        refine ⟨_, dj.fd.np, ?_, h4⟩
        show (p.look j).map (fun d => (d.name, d.fd.np)) = _
        rw [hlt]
        rfl
      ln := fun j x n ds ω hj hne => by
        have hj : (p.look j).map (fun d => (d.name, d.fd.np)) = some (x, n) := hj
        obtain ⟨d', h1, h2⟩ := Option.map_eq_some_iff.mp hj
        cases h2
        exact phi_len p B.ft k j d' ds ω h1 hne
      gl := fun j x hj => by
        have hj : (p.gl j).map (fun y : Nat × Str × Py.D => y.2.1) = some x := hj
        obtain ⟨y, h1, h2⟩ := Option.map_eq_some_iff.mp hj
        subst h2
        obtain ⟨v, u, h3, h4, h5⟩ := B.gl j y h1
        have e : L.g j = y.2.2 := by
          show p.prog.g j = y.2.2
          rw [← PT.gl_id h1]
          exact B.ft.gl y (PT.gl_mem h1)
        exact ⟨v, u, h3, h4, fun H Z η => by rw [e]; exact h5 H Z η⟩
      cl := B.cl
      sub := B.sub
      ec := B.ec
      eb := B.eb
      top := fun _ => ⟨rfl, rfl⟩
      hot := fun j hj => by cases hj
      kind := S.kind
      sb := rfl
      th := fun _ => rfl }
    refine ⟨tS c (Py.evSs L d.fd.body), sSs d.fd.body fn o4, Z, η, ω, d.fd.env ds, env_start rfl rfl rfl o3 wi rl, ?_⟩
    unfold Py.phi at hm
    simp only [hdef, Py.runF] at hm
    have hl2 : ds.length = d.fd.np := by rw [← hl]; exact rl.length.symm
    rw [if_pos hl2] at hm
    unfold Py.outM at hm
    cases hr2 : Py.evSs L d.fd.body (d.fd.env ds) ω with
    | stuck => rw [show Py.evSs ⟨Py.phi p.prog k, p.prog.g, p.prog.sub, p.prog.ini, p.prog.mt⟩ d.fd.body (d.fd.env ds) ω = _ from hr2] at hm; exact hm.elim
    | nx r' ω' => rw [show Py.evSs ⟨Py.phi p.prog k, p.prog.g, p.prog.sub, p.prog.ini, p.prog.mt⟩ d.fd.body (d.fd.env ds) ω = _ from hr2] at hm; exact fun σ' H' Z' η' e _ => hm _ H' Z' η' e.s0 e.w .non
    | rt dd ω' => rw [show Py.evSs ⟨Py.phi p.prog k, p.prog.g, p.prog.sub, p.prog.ini, p.prog.mt⟩ d.fd.body (d.fd.env ds) ω = _ from hr2] at hm; exact fun v H' Z' η' st w r => hm v H' Z' η' st w r
    | ex x r' ω' => rw [show Py.evSs ⟨Py.phi p.prog k, p.prog.g, p.prog.sub, p.prog.ini, p.prog.mt⟩ d.fd.body (d.fd.env ds) ω = _ from hr2] at hm; exact fun σ' H' Z' η' b e _ hb => hm H' Z' η' b e.s0 e.w hb
/-- the law's def at the script -/
theorem law_sp {k i : Nat} {H : Hp} {a : Addr} {ns : List Int} {ω' : Py.Store} (hO : Only H) (hS : SqL K H a (ns.map V.int)) (h : Py.phi p.prog k i [.scr (ns.map .int)] [] = .ok (.bl true) ω') :
    spF K fA eA 1 (Py.phi p.prog k i) [.ref a] H (fun v _ => v = .bl true) (fun _ _ _ => False) := by
  have hr : ∀ {Z : Addr → Prop} {η : List Addr}, ∀ ms : List Int, RepL K fA H Z η (ms.map V.int) (ms.map Py.D.int) := fun {Z η} ms => by
    induction ms with
    | nil => exact .nil
    | cons m ms ih => exact .cons (.int m) ih
  have fin : ∀ {Z : Addr → Prop}, Rep K fA H Z [] (.ref a) (.scr (ns.map Py.D.int)) → (∀ b, Z b → H b ≠ none) → spF K fA eA 1 (Py.phi p.prog k i) [.ref a] H (fun v _ => v = .bl true) (fun _ _ _ => False) := fun {Z} rs hz => by
    refine ⟨rfl, Z, [], [], [.scr (ns.map .int)], ⟨fun _ _ h => by simp at h, hz, fun _ h => by simp at h, List.nodup_nil, rfl, fun n xs h => by simp at h⟩, .cons rs .nil, ?_⟩
    rw [h]
    intro v H' Z' η' _ _ r
    cases r
    rfl
  rcases hS with hS | hS
  · refine fin (Z := fun b => b = a) (.scr (.inl ⟨rfl, hS⟩) (hr ns)) fun b hb => ?_
    subst hb
    rcases hS with e | ⟨o, e⟩ <;> rw [e] <;> simp
  · exact fin (Z := fun _ => False) (.scr (.inr hS) (hr ns)) fun b hb => hb.elim
end
end PyS
end
section
namespace PyS
open PySem PySem.Spec PyProof.Rows L2
/-! ### what the head must see -/
def excB (K : PySem.W.Frag) (D : Addr) : Bool :=
  decide (PySem.W.findIn K (.ref D) "__getattribute__" = some (some (.builtin "BaseException.__getattribute__"))) && (decide (PySem.W.findIn K (.ref D) "__getattr__" = some none) && (decide (PySem.W.subIn K (.ref D) (.type "BaseException") = some true) &&
    (PySem.W.hasDictIn K D && (decide (PySem.W.findIn K (.ref D) "__class__" = some (some (.builtin "object.__class__"))) && (decide (PySem.W.specialIn K (.builtin "object.__class__") "__get__" = some (some (.builtin "getset_descriptor.__get__"))) &&
      (decide (PySem.W.takesIn K (.builtin "object.__class__") = some true) && decide (PySem.W.mroIn K D (.type "object") = some true)))))))
theorem excB_ok {K : PySem.W.Frag} {D : Addr} (h : excB K D = true) : ExcC K D := by
  obtain ⟨h1, h⟩ := ba h
  obtain ⟨h2, h⟩ := ba h
  obtain ⟨h3, h⟩ := ba h
  obtain ⟨h4, h⟩ := ba h
  obtain ⟨h5, h⟩ := ba h
  obtain ⟨h6, h⟩ := ba h
  obtain ⟨h7, h8⟩ := ba h
  exact ⟨of_decide_eq_true h1, of_decide_eq_true h2, of_decide_eq_true h3, h4, of_decide_eq_true h5, of_decide_eq_true h6, of_decide_eq_true h7, of_decide_eq_true h8⟩
def clB (K : PySem.W.Frag) (cs : List (Nat × Str)) (sub : Nat → Nat → Bool) : Bool :=
  cs.all (fun x => excB K (He.ga K x.2)) && cs.all fun x => cs.all fun y => decide (PySem.W.kitOne K (.ref (He.ga K x.2)) (.ref (He.ga K y.2)) = some (sub x.1 y.1)) && decide (PySem.W.exmOne K (.ref (He.ga K x.2)) (.ref (He.ga K y.2)) = some (sub x.1 y.1))
def cFa : Nat × Str × Py.D → He.Fa
  | (_, x, .int i) => .int x i
  | (_, x, .str cs) => .str x ⟨cs.toArray⟩
  | (_, x, _) => .glo x
def PT.fa (p : PT) : List He.Fa := p.ds.map (fun d => .glo d.name) ++ (p.bl.map .free ++ (p.gs.map cFa ++ (p.cs.map (fun x => .glo x.2) ++ p.cs.map (fun x => .exc x.2))))
def PT.fn (p : PT) : List He.DefD := p.ds.map fun d => ⟨(d.name, none), d.name, d.name, defArgs d.st, defBody d.st, defScope d.st, [], []⟩
def PT.q (p : PT) (K : PySem.W.Frag) : Bool := clB K p.cs p.prog.sub
def PT.saysX (p : PT) (K : PySem.W.Frag) : Prop := p.q K = true ∧ He.SaysD p.fa p.fn K
def PT.obs (p : PT) (n : Nat) (g : Addr → Option Obj) : Bool × He.AlD := (p.q (He.frG g (He.asD g n)), He.obsD p.fa p.fn (He.frG g (He.asD g n)))
def PT.hook (p : PT) (n : Nat) : PySem.W.Hook where
  α := Bool × He.AlD
  obs := fun s => p.obs n s.heap.get?
  val := fun _ => (true, He.valD p.fn)
  says := fun _ h => ∃ K : PySem.W.Frag, K.In h ∧ p.saysX K
  of := fun _ s e => ⟨He.frG s.heap.get? (He.asD s.heap.get? n), He.frG_in, congrArg Prod.fst e, congrArg Prod.snd e⟩
  keeps := fun _ _ _ ⟨K, hK, c⟩ k => ⟨K, PySem.W.Frag.In.keeps hK k, c⟩
theorem PT.obs_eq {p : PT} {n : Nat} {g : Addr → Option Obj} {s : Shared} (h : ∀ a, g a = s.heap.get? a) : p.obs n g = (p.hook n).obs s := by
  have e : g = s.heap.get? := funext h
  rw [e] <;> rfl
def BindOk (d : PD) : Prop := ∀ (kV doc pm : Value) (an : Option Addr) (cdv ct : Value) (us : List Value), us.length = d.ps.length → bindArgs (PySem.W.fnOf d.name d.name (defArgs d.st) (defBody d.st) (defScope d.st) .none kV doc pm an cdv ct) ⟨us, []⟩ = pure (d.ps.zip us)
def cOk : Nat × Str × Py.D → Bool
  | (_, _, .int _) => true
  | (_, _, .str cs) => cs.all fun c => decide (c < 1114112)
  | _ => false
theorem nmInj : ∀ i j : Nat, ((⟨#[i]⟩ : Str) = ⟨#[j]⟩) → i = j := fun i j h => by
  have := congrArg (fun s : Str => s.cps) h
  simpa using this
def PT.fAof (p : PT) (K : PySem.W.Frag) : Ad := ⟨fun i => (p.look i).map fun d => He.ga K d.name, fun _ => none, fun i => ⟨#[i]⟩, nmInj⟩
def PT.eAof (p : PT) (K : PySem.W.Frag) (i : Nat) : Option Addr := (p.cl i).map fun x => He.ga K x
theorem fact_in {fa : List He.Fa} {fn : List He.DefD} {K : PySem.W.Frag} (c : He.SaysD fa fn K) {f : He.Fa} (h : f ∈ fa) : f.ok K = true := by
  obtain ⟨i, hi⟩ := List.getElem?_of_mem h
  exact c.fact i hi
theorem base_of {p : PT} {K : PySem.W.Frag} {mg : Str → Option Value} {h : Heap} (X : K.In h) (G : h.Ns mainGlobals mg) (c : p.saysX K) (ft : p.fits) (hb : ∀ d ∈ p.ds, BindOk d) (hg : ∀ g ∈ p.gs, cOk g = true) : Base p K mg (p.fAof K) (p.eAof K) := by
  obtain ⟨cq, cs⟩ := c
  obtain ⟨q1, q2⟩ := ba cq
  rw [List.all_eq_true] at q1 q2
  have eA : ∀ {n a}, p.eAof K n = some a → ∃ x, p.cl n = some x ∧ a = He.ga K x := fun {n a} h => by
    obtain ⟨x, h1, h2⟩ := Option.map_eq_some_iff.mp h
    exact ⟨x, h1, h2.symm⟩
  refine ⟨fun i d hd => ?_, fun i a h => ?_, fun i y hd => ?_, fun x hx => ?_, fun n x hx => ?_, fun n m a b ha hb => ?_, fun n a ha => ?_, fun n a ha => ?_, ft⟩
  · have hm := PT.look_mem hd
    obtain ⟨j, hj⟩ := List.getElem?_of_mem hm
    obtain ⟨fd, F⟩ := cs.def_ j (d := ⟨(d.name, none), d.name, d.name, defArgs d.st, defBody d.st, defScope d.st, [], []⟩) (by show (p.ds.map _)[j]? = _; rw [List.getElem?_map, hj]; rfl)
    exact ⟨He.ga K d.name, fd, by show (p.look i).map _ = _; rw [hd]; rfl, He.glo_ok X G (fact_in cs (List.mem_append_left _ (List.mem_map.mpr ⟨d, hm, rfl⟩))), F, FunD.bindsN F (hb d hm)⟩
  · obtain ⟨x, h1, h2⟩ := Option.map_eq_some_iff.mp h
    exact ⟨x, h1⟩
  · have hm := PT.gl_mem hd
    obtain ⟨gi, x, d⟩ := y
    have hf := fact_in cs (f := cFa (gi, x, d)) (List.mem_append_right _ (List.mem_append_right _ (List.mem_append_left _ (List.mem_map.mpr ⟨_, hm, rfl⟩))))
    have ho := hg _ hm
    cases d <;> first | (cases ho; done) | skip
    · obtain ⟨t, e⟩ := He.int_ok X G hf
      exact ⟨.int _, _, e, ⟨t, rfl⟩, fun H Z η => .int _⟩
    · rename_i cs'
      obtain ⟨t, e⟩ := He.str_ok X G hf
      exact ⟨.str ⟨cs'.toArray⟩, _, e, ⟨t, rfl⟩, fun H Z η => .str _ ho⟩
  · exact He.free_ok X G (fact_in cs (List.mem_append_right _ (List.mem_append_left _ (List.mem_map.mpr ⟨x, hx, rfl⟩))))
  · have hm := PT.cl_mem hx
    obtain ⟨k1, k2, k3, k4⟩ := He.exc_ok (fact_in cs (f := .exc x) (List.mem_append_right _ (List.mem_append_right _ (List.mem_append_right _ (List.mem_append_right _ (List.mem_map.mpr ⟨(n, x), hm, rfl⟩))))))
    exact ⟨He.ga K x, by show (p.cl n).map _ = _; rw [hx]; rfl, He.glo_ok X G (fact_in cs (List.mem_append_right _ (List.mem_append_right _ (List.mem_append_right _ (List.mem_append_left _ (List.mem_map.mpr ⟨(n, x), hm, rfl⟩)))))), k1, k2, k3, k4⟩
  · obtain ⟨x, h1, rfl⟩ := eA ha
    obtain ⟨y, h2, rfl⟩ := eA hb
    have z := q2 _ (PT.cl_mem h1)
    rw [List.all_eq_true] at z
    obtain ⟨z1, z2⟩ := ba (z _ (PT.cl_mem h2))
    exact ⟨of_decide_eq_true z1, of_decide_eq_true z2⟩
  · obtain ⟨x, h1, rfl⟩ := eA ha
    exact excB_ok (q1 _ (PT.cl_mem h1))
  · obtain ⟨x, h1, rfl⟩ := eA ha
    exact List.mem_map.mpr ⟨_, PT.cl_mem h1, rfl⟩
def CXA (P : Program) : CXT := fun outer H s E u s' => ∃ w, L2.CX P w outer H s E u s'
theorem FnOk.wk {P : Program} {w : World} {K : PySem.W.Frag} {mg : Str → Option Value} {base : Heap} {CX CX' : CXT} {k : Nat} {f : Addr} {fd : FuncData} {ps : List Str} {sp : Sp} (F : FnOk P w K mg base CX k f fd ps sp) (h : ∀ outer H s E e s', CX outer H s E e s' → CX' outer H s E e s') :
    FnOk P w K mg base CX' k f fd ps sp := ⟨F.len, fun A outer s H args us vs Q E hr he hb hv hs => codeAny_mono (F.run A outer s H args us vs Q E hr he hb hv hs) fun r s' z => by
  cases r with
  | error e => exact h _ _ _ _ _ _ z
  | ok fl => cases fl <;> exact z⟩
theorem no_exc {P : Program} : ∀ (H : Hp) (s : Shared) (e : Value) (s' : Shared), CXA P [] H s (fun _ _ _ => False) e s' → False := fun H s e s' h => by
  obtain ⟨_, _, _, _, _, _, _, _, _, _, _, _, _, z⟩ := h
  exact z
/-- what is left to say of a law: that its text answers True -/
theorem walk_law {p : PT} {l : PySem.W.OpenLaw} {n k i : Nat} {d : DefRec} {dl : PD} {x : Str} {m : Nat} (hn : l.most = some n) (hn2 : n ≤ sizeLine) (hdf : d.params.defaults = []) (hr : Room k callerA)
    (hd : p.look i = some dl) (ft : p.fits) (hnm : d.name = dl.name) (hps : dl.ps = [x]) (hnp : dl.fd.np = 1) (hb : ∀ d ∈ p.ds, BindOk d) (hg : ∀ g ∈ p.gs, cOk g = true) (hok : ∀ d ∈ p.ds, d.ok p = true)
    (hw : ∀ ns : List Int, ns.length ≤ n → ∃ ω', Py.phi p.prog k i [.scr (ns.map .int)] [] = .ok (.bl true) ω') :
    ∀ (w : World) (mg : Str → Option Value) (fa : Addr) (h : Heap), (p.hook m).says w h → h.Ns mainGlobals mg → mg d.name = some (.ref fa) →
      ∃ (K : PySem.W.Frag) (fd : FuncData) (sp : Sp), K.In h ∧ (∀ (s : Shared) (u : Value), BindsTo s fd ⟨[u], []⟩ [(x, u)]) ∧
        (∀ (H : Hp) (a : Addr) (ns : List Int), ns.length ≤ n → Only H → SqL K H a (ns.map V.int) → sp [.ref a] H (fun v _ => v = .bl true) fun _ _ _ => False) ∧
        ∀ base : Heap, K.In base → base.Ns mainGlobals mg → FnOk l.prog w K mg base (CXA l.prog) k fa fd [x] sp := by
  intro w mg fa h Y G hmg
  obtain ⟨K, KX, c⟩ := Y
  have B := base_of KX G c ft hb hg
  obtain ⟨a, fd, h1, h2, F, Bd⟩ := B.df i dl hd
  rw [hnm] at hmg
  have e := hmg.symm.trans h2
  cases e
  refine ⟨K, fd, spF K (p.fAof K) (p.eAof K) 1 (Py.phi p.prog k i), KX, fun s u => ?_, fun H a ns hl hO hS => ?_, fun base hK hG => ?_⟩
  · have z := FunD.bindsA (ps := dl.ps) F (hb dl (PT.look_mem hd)) s [u] (by rw [hps]; rfl)
    rw [hps] at z
    exact z
  · obtain ⟨ω', h⟩ := hw ns hl
    exact law_sp hO hS h
  · have z := all_ok (P := l.prog) (w := w) (base := base) B hok k i dl fa fd hd F
    rw [hps, hnp] at z
    exact FnOk.wk z fun _ _ _ _ _ _ h => ⟨w, h⟩
end PyS
end
section
/-! reports -/
namespace Lw
open Py
def Lk' (X : List Fd) (k : Nat) : Lk := ⟨phi (U X) k, (U X).g, (U X).sub, (U X).ini, (U X).mt⟩
@[simp] theorem lkφ (X : List Fd) (k : Nat) : (Lk' X k).φ = phi (U X) k := Eq.trans rfl rfl
def ug (n : Nat) : D := uGs.getD n .non
@[simp] theorem lkg (X : List Fd) (k n : Nat) : (Lk' X k).g n = ug n := Eq.trans rfl rfl
@[simp] theorem lks (X : List Fd) (k n m : Nat) : (Lk' X k).sub n m = (n == m || m == 0) := Eq.trans rfl rfl
@[simp] theorem ug0 : ug 0 = .int 9999 := Eq.trans rfl rfl
@[simp] theorem ug1 : ug 1 = .int 10 := Eq.trans rfl rfl
@[simp] theorem ug2 : ug 2 = .int 3 := Eq.trans rfl rfl
@[simp] theorem ug4 : ug 4 = .int 10 := Eq.trans rfl rfl
@[simp] theorem ug5 : ug 5 = .int 6 := Eq.trans rfl rfl
@[simp] theorem ug6 : ug 6 = .int 999 := Eq.trans rfl rfl
@[simp] theorem ug7 : ug 7 = .int 6 := Eq.trans rfl rfl
@[simp] theorem ug8 : ug 8 = .int 9 := Eq.trans rfl rfl
@[simp] theorem ug9 : ug 9 = .int 10 := Eq.trans rfl rfl
@[simp] theorem ug10 : ug 10 = .int 1000 := Eq.trans rfl rfl
def Letters : Tx := [97, 98, 99, 100, 101, 102, 103, 104, 105, 106, 107, 108, 109, 110, 111, 112, 113, 114, 115, 116, 117, 118, 119, 120, 121, 122]
@[simp] theorem ug3 : ug 3 = .str Letters := Eq.trans rfl rfl
theorem at_def {X : List Fd} {k i : Nat} {f : Fd} {ds : List D} {m : M D} (h : (U X).defs i = some f) (hk : 0 < k) (hm : runF (Lk' X (k - 1)) f ds = m) : phi (U X) k i ds = m := by
  obtain ⟨k, rfl⟩ : ∃ k', k = k' + 1 := ⟨k - 1, by omega⟩
  rw [phi, h]
  exact hm
@[simp] theorem ints_map (lo : Int) : ∀ n : Nat, intsF lo n = (List.range n).map fun i : Nat => D.int (lo + i)
  | 0 => rfl
  | n + 1 => by
    rw [intsF, ints_map (lo + 1) n, List.range_succ_eq_map, List.map_cons, List.map_map]
    congr 1
    · simp
    · refine List.map_congr_left fun i _ => ?_
      simp only [Function.comp]
      congr 1
      omega
/-! ### plain data -/
def pl : Nat → D → Bool
  | _, .non => true
  | _, .bl _ => true
  | _, .int _ => true
  | _, .str cs => decide (cs.length ≤ LIM)
  | n + 1, .tup xs => xs.all (pl n)
  | n + 1, .lst xs => xs.all (pl n)
  | _, _ => false
theorem pl_tup {n : Nat} {xs : List D} (h : pl n (.tup xs) = true) : ∀ x ∈ xs, pl n x = true ∨ ∃ m, m + 1 = n ∧ pl m x = true := by
  intro x hx
  cases n with
  | zero => simp [pl] at h
  | succ m => exact .inr ⟨m, rfl, by simp only [pl, List.all_eq_true] at h; exact h x hx⟩
def okD : D → Bool
  | .non => true | .bl _ => true | .int _ => true | .str _ => true | .tup _ => true | .lst _ => true
  | _ => false
theorem pl_ok {n : Nat} {d : D} (h : pl n d = true) : okD d = true := by
  cases d <;> first | rfl | (cases n <;> simp [pl] at h)
@[simp] theorem shp_non (n : Nat) : shp n .non = true := by cases n <;> rfl
@[simp] theorem shp_bl (n : Nat) (b : Bool) : shp n (.bl b) = true := by cases n <;> rfl
@[simp] theorem shp_int (n : Nat) (i : Int) : shp n (.int i) = true := by cases n <;> rfl
@[simp] theorem shp_str (n : Nat) (x : Tx) : shp n (.str x) = true := by cases n <;> rfl
@[simp] theorem shp_tup (n : Nat) (xs : List D) : shp (n + 1) (.tup xs) = xs.all (shp n) := by rw [shp]
@[simp] theorem shp_lst (n : Nat) (xs : List D) : shp (n + 1) (.lst xs) = xs.all (shp n) := by rw [shp]
theorem pl_shp : ∀ (n : Nat) (d : D), pl n d = true → shp n d = true
  | n, .non, _ => by simp
  | n, .bl _, _ => by simp
  | n, .int _, _ => by simp
  | n, .str _, _ => by simp
  | 0, .tup _, h => by simp [pl] at h
  | 0, .lst _, h => by simp [pl] at h
  | n + 1, .tup xs, h => by
    rw [shp_tup, List.all_eq_true]
    simp only [pl, List.all_eq_true] at h
    exact fun x hx => pl_shp n x (h x hx)
  | n + 1, .lst xs, h => by
    rw [shp_lst, List.all_eq_true]
    simp only [pl, List.all_eq_true] at h
    exact fun x hx => pl_shp n x (h x hx)
  | n, .scr _, h => by cases n <;> simp [pl] at h
  | n, .fn _, h => by cases n <;> simp [pl] at h
  | n, .loc _, h => by cases n <;> simp [pl] at h
  | n, .exc _, h => by cases n <;> simp [pl] at h
  | n, .clo .., h => by cases n <;> simp [pl] at h
@[simp] theorem eqD_int (i j : Int) : eqD (.int i) (.int j) = (i == j) := by rw [eqD]
@[simp] theorem eqD_str (x y : Tx) : eqD (.str x) (.str y) = (x == y) := by rw [eqD]
@[simp] theorem eqD_bl (x y : Bool) : eqD (.bl x) (.bl y) = (x == y) := by rw [eqD]
@[simp] theorem eqD_tup (x y : List D) : eqD (.tup x) (.tup y) = eqL x y := by rw [eqD]
@[simp] theorem eqD_lst (x y : List D) : eqD (.lst x) (.lst y) = eqL x y := by rw [eqD]
@[simp] theorem eqD_non : eqD .non .non = true := by rw [eqD]
@[simp] theorem eqD_non_int  (i : Int) : eqD .non (.int i) = false := by rw [eqD] <;> simp
@[simp] theorem eqD_non_str  (x : Tx) : eqD .non (.str x) = false := by rw [eqD] <;> simp
@[simp] theorem eqD_non_tup  (t : List D) : eqD .non (.tup t) = false := by rw [eqD] <;> simp
@[simp] theorem eqD_non_lst  (l : List D) : eqD .non (.lst l) = false := by rw [eqD] <;> simp
@[simp] theorem eqD_non_bl  (b : Bool) : eqD .non (.bl b) = false := by rw [eqD] <;> simp
@[simp] theorem eqD_int_non (i : Int)  : eqD (.int i) .non = false := by rw [eqD] <;> simp
@[simp] theorem eqD_int_str (i : Int) (x : Tx) : eqD (.int i) (.str x) = false := by rw [eqD] <;> simp
@[simp] theorem eqD_int_tup (i : Int) (t : List D) : eqD (.int i) (.tup t) = false := by rw [eqD] <;> simp
@[simp] theorem eqD_int_lst (i : Int) (l : List D) : eqD (.int i) (.lst l) = false := by rw [eqD] <;> simp
@[simp] theorem eqD_str_non (x : Tx)  : eqD (.str x) .non = false := by rw [eqD] <;> simp
@[simp] theorem eqD_str_int (x : Tx) (i : Int) : eqD (.str x) (.int i) = false := by rw [eqD] <;> simp
@[simp] theorem eqD_str_tup (x : Tx) (t : List D) : eqD (.str x) (.tup t) = false := by rw [eqD] <;> simp
@[simp] theorem eqD_str_lst (x : Tx) (l : List D) : eqD (.str x) (.lst l) = false := by rw [eqD] <;> simp
@[simp] theorem eqD_str_bl (x : Tx) (b : Bool) : eqD (.str x) (.bl b) = false := by rw [eqD] <;> simp
@[simp] theorem eqD_tup_non (t : List D)  : eqD (.tup t) .non = false := by rw [eqD] <;> simp
@[simp] theorem eqD_tup_int (t : List D) (i : Int) : eqD (.tup t) (.int i) = false := by rw [eqD] <;> simp
@[simp] theorem eqD_tup_str (t : List D) (x : Tx) : eqD (.tup t) (.str x) = false := by rw [eqD] <;> simp
@[simp] theorem eqD_tup_lst (t : List D) (l : List D) : eqD (.tup t) (.lst l) = false := by rw [eqD] <;> simp
@[simp] theorem eqD_tup_bl (t : List D) (b : Bool) : eqD (.tup t) (.bl b) = false := by rw [eqD] <;> simp
@[simp] theorem eqD_lst_non (l : List D)  : eqD (.lst l) .non = false := by rw [eqD] <;> simp
@[simp] theorem eqD_lst_int (l : List D) (i : Int) : eqD (.lst l) (.int i) = false := by rw [eqD] <;> simp
@[simp] theorem eqD_lst_str (l : List D) (x : Tx) : eqD (.lst l) (.str x) = false := by rw [eqD] <;> simp
@[simp] theorem eqD_lst_tup (l : List D) (t : List D) : eqD (.lst l) (.tup t) = false := by rw [eqD] <;> simp
@[simp] theorem eqD_lst_bl (l : List D) (b : Bool) : eqD (.lst l) (.bl b) = false := by rw [eqD] <;> simp
@[simp] theorem eqD_bl_non (b : Bool)  : eqD (.bl b) .non = false := by rw [eqD] <;> simp
@[simp] theorem eqD_bl_str (b : Bool) (x : Tx) : eqD (.bl b) (.str x) = false := by rw [eqD] <;> simp
@[simp] theorem eqD_bl_tup (b : Bool) (t : List D) : eqD (.bl b) (.tup t) = false := by rw [eqD] <;> simp
@[simp] theorem eqD_bl_lst (b : Bool) (l : List D) : eqD (.bl b) (.lst l) = false := by rw [eqD] <;> simp
@[simp] theorem eqL_nil : eqL [] [] = true := by rw [eqL]
@[simp] theorem eqL_cons (x y : D) (xs ys : List D) : eqL (x :: xs) (y :: ys) = (eqD x y && eqL xs ys) := by rw [eqL]
@[simp] theorem eqL_nc (y : D) (ys : List D) : eqL [] (y :: ys) = false := by rw [eqL]
@[simp] theorem eqL_cn (x : D) (xs : List D) : eqL (x :: xs) [] = false := by rw [eqL]
@[simp] theorem eqL_mapnil {α : Type} (e : α → D) (xs : List α) : eqL (xs.map e) [] = xs.isEmpty := by cases xs <;> simp
theorem eqL_map {α : Type} [DecidableEq α] {e : α → D} (he : ∀ a b, eqD (e a) (e b) = decide (a = b)) : ∀ xs ys : List α, eqL (xs.map e) (ys.map e) = decide (xs = ys)
  | [], [] => by simp
  | [], y :: ys => by simp
  | x :: xs, [] => by simp
  | x :: xs, y :: ys => by
    simp only [List.map_cons, eqL_cons, he, eqL_map he xs ys]
    by_cases h : x = y <;> simp [h]
@[simp] theorem cmp_eq (x y : D) : cmpD .eq x y = if shS x && shp 8 y then some (eqD x y) else none := by rw [cmpD]
@[simp] theorem cmp_ne (x y : D) : cmpD .ne x y = if shS x && shp 8 y then some (!eqD x y) else none := by rw [cmpD]
@[simp] theorem cmp_lt (i j : Int) : cmpD .lt (.int i) (.int j) = some (decide (i < j)) := by rw [cmpD]
@[simp] theorem cmp_le (i j : Int) : cmpD .le (.int i) (.int j) = some (decide (i ≤ j)) := by rw [cmpD]
@[simp] theorem cmp_gt (i j : Int) : cmpD .gt (.int i) (.int j) = some (decide (j < i)) := by rw [cmpD]
@[simp] theorem cmp_ge (i j : Int) : cmpD .ge (.int i) (.int j) = some (decide (j ≤ i)) := by rw [cmpD]
@[simp] theorem cmp_ltS (i j : Tx) : cmpD .lt (.str i) (.str j) = some (txLt i j) := by rw [cmpD]
@[simp] theorem cmp_gtS (i j : Tx) : cmpD .gt (.str i) (.str j) = some (txLt j i) := by rw [cmpD]
@[simp] theorem cmp_in (x y : D) : cmpD .inn x y = inD x y := by cases y <;> rw [cmpD]
@[simp] theorem cmp_nin (x y : D) : cmpD .nin x y = (inD x y).map (!·) := by cases y <;> rw [cmpD]
@[simp] theorem shS_int (i : Int) : shS (.int i) = true := by rw [shS] <;> simp
@[simp] theorem shS_str (i : Tx) : shS (.str i) = true := by rw [shS] <;> simp
@[simp] theorem shS_bl (i : Bool) : shS (.bl i) = true := by rw [shS] <;> simp
@[simp] theorem shS_non : shS .non = true := by rw [shS] <;> simp
@[simp] theorem shS_tup (xs : List D) : shS (.tup xs) = xs.all (shp 7) := by rw [shS] <;> simp
@[simp] theorem shS_lst (xs : List D) : shS (.lst xs) = xs.all (shp 7) := by rw [shS] <;> simp
@[simp] theorem shS_scr (ns : List Int) : shS (.scr (ns.map .int)) = true := by rw [shS]; simp
@[simp] theorem allmap {α : Type} (f : α → D) (p : D → Bool) (xs : List α) : (xs.map f).all p = xs.all fun a => p (f a) := by rw [List.all_map]; rfl
@[simp] theorem all_tt {α : Type} (xs : List α) : (xs.all fun _ => true) = true := by simp
/-! built-ins -/
@[simp] theorem b_len_l (xs : List D) : bltD .len [.lst xs] = some (.int xs.length) := by rw [bltD, lenD]
@[simp] theorem b_len_t (xs : List D) : bltD .len [.tup xs] = some (.int xs.length) := by rw [bltD, lenD]
@[simp] theorem b_len_c (xs : List D) : bltD .len [.scr xs] = some (.int xs.length) := by rw [bltD, lenD]
@[simp] theorem b_len_s (cs : Tx) : bltD .len [.str cs] = if cs.length ≤ LIM then some (.int cs.length) else none := by rw [bltD, lenD]
@[simp] theorem toBls_map {α : Type} (f : α → Bool) : ∀ xs : List α, toBls (xs.map fun a => D.bl (f a)) = some (xs.map f)
  | [] => by simp [toBls]
  | x :: xs => by simp [toBls, toBls_map f xs]
@[simp] theorem toInts_map {α : Type} (f : α → Int) : ∀ xs : List α, toInts (xs.map fun a => D.int (f a)) = some (xs.map f)
  | [] => by simp [toInts]
  | x :: xs => by simp [toInts, toInts_map f xs]
@[simp] theorem toInts_int (xs : List Int) : toInts (xs.map D.int) = some xs := by
  have := toInts_map id xs
  simpa using this
@[simp] theorem b_all {α : Type} (f : α → Bool) (xs : List α) : bltD .all [.lst (xs.map fun a => D.bl (f a))] = some (.bl (xs.all f)) := by
  rw [bltD, allD, toBls_map]; simp
@[simp] theorem b_any {α : Type} (f : α → Bool) (xs : List α) : bltD .any [.lst (xs.map fun a => D.bl (f a))] = some (.bl (xs.any f)) := by
  rw [bltD, anyD, toBls_map]; simp
@[simp] theorem b_tuple (xs : List D) : bltD .tuple [.lst xs] = some (.tup xs) := by rw [bltD, tupleD]
@[simp] theorem b_tuple_t (xs : List D) : bltD .tuple [.tup xs] = some (.tup xs) := by rw [bltD, tupleD]
@[simp] theorem b_list (xs : List D) : bltD .list [.lst xs] = some (.lst xs) := by rw [bltD, listD]
@[simp] theorem b_list_t (xs : List D) : bltD .list [.tup xs] = some (.lst xs) := by rw [bltD, listD]
@[simp] theorem b_max2 (i j : Int) : bltD .max2 [.int i, .int j] = some (.int (if j > i then j else i)) := by rw [bltD, max2D]
@[simp] theorem b_min2 (i j : Int) : bltD .min2 [.int i, .int j] = some (.int (if j < i then j else i)) := by rw [bltD, min2D]
@[simp] theorem b_abs (i : Int) : bltD .abs [.int i] = some (.int (if i < 0 then -i else i)) := by rw [bltD, absD]
@[simp] theorem b_ssetI (ns : List Int) : bltD .ssetI [.lst (ns.map .int)] = if ns.length < 64 then some (.lst ((usort ns).map .int)) else none := by
  rw [bltD, ssetID, toInts_int]; simp
@[simp] theorem b_max1I (ns : List Int) : bltD .max1I [.lst (ns.map .int)] = ns.max?.map .int := by
  rw [bltD, max1ID, toInts_int]; simp
@[simp] theorem b_min1I (ns : List Int) : bltD .min1I [.lst (ns.map .int)] = ns.min?.map .int := by
  rw [bltD, min1ID, toInts_int]; simp
@[simp] theorem b_sortedI (ns : List Int) : bltD .sortedI [.lst (ns.map .int)] = some (.lst ((sortInts ns).map .int)) := by
  rw [bltD, sortedID, toInts_int]; simp
@[simp] theorem b_sum (ns : List Int) : bltD .sum [.lst (ns.map .int)] = some (.int ns.sum) := by
  rw [bltD, sumD, toInts_int]; simp
@[simp] theorem it_lst (xs : List D) : itD (.lst xs) = some xs := by rw [itD]
@[simp] theorem it_tup (xs : List D) : itD (.tup xs) = some xs := by rw [itD]
@[simp] theorem it_str (cs : Tx) : itD (.str cs) = if cs.length ≤ LIM then some (cs.map fun c => .str [c]) else none := by rw [itD]
@[simp] theorem bin_add (i j : Int) : binD .add (.int i) (.int j) = some (.int (i + j)) := by rw [binD]
@[simp] theorem bin_sub (i j : Int) : binD .sub (.int i) (.int j) = some (.int (i - j)) := by rw [binD]
@[simp] theorem bin_mul (i j : Int) : binD .mul (.int i) (.int j) = if small i || small j then some (.int (i * j)) else none := by rw [binD]
@[simp] theorem bin_fdiv (i j : Int) : binD .fdiv (.int i) (.int j) = if 0 < j ∧ j < 18446744073709551616 then some (.int (i / j)) else none := by rw [binD]
@[simp] theorem bin_mod (i j : Int) : binD .mod (.int i) (.int j) = if 0 < j then some (.int (i % j)) else none := by rw [binD]
@[simp] theorem bin_addL (xs ys : List D) : binD .add (.lst xs) (.lst ys) = if xs.length + ys.length ≤ LIM then some (.lst (xs ++ ys)) else none := by rw [binD]
@[simp] theorem bin_addT (xs ys : List D) : binD .add (.tup xs) (.tup ys) = if xs.length + ys.length ≤ LIM then some (.tup (xs ++ ys)) else none := by rw [binD]
@[simp] theorem bin_addS (xs ys : Tx) : binD .add (.str xs) (.str ys) = if xs.length + ys.length ≤ LIM then some (.str (xs ++ ys)) else none := by rw [binD]
theorem sub_l (xs : List D) (i : Int) : subD (.lst xs) (.int i) = (ixN xs.length i).bind fun j => xs[j]? := by rw [subD]
@[simp] theorem sub_last (xs : List D) (x : D) : subD (.lst (xs ++ [x])) (.int (-1)) = some x := by
  have e : ixN (xs ++ [x]).length (-1) = some xs.length := by
    unfold ixN
    rw [if_neg (by decide), if_pos (by simp; omega)]
    congr 1
    simp
    omega
  rw [sub_l, e]
  simp
@[simp] theorem sub_one (x : D) : subD (.lst [x]) (.int (-1)) = some x := sub_last [] x
@[simp] theorem sub_head (x : D) (xs : List D) : subD (.lst (x :: xs)) (.int 0) = some x := by
  have e : ixN (x :: xs).length 0 = some 0 := by
    unfold ixN
    rw [if_pos (by decide), if_pos (by simp)]
    rfl
  rw [sub_l, e]
  simp
@[simp] theorem eqL_snoc (xs : List D) (x : D) : eqL (xs ++ [x]) [] = false := by cases xs <;> simp
def tl {α : Type} (xs : List α) : List α := xs.drop 1
@[simp] theorem tl_len {α : Type} (xs : List α) : (tl xs).length = xs.length - 1 := by simp [tl]
@[simp] theorem tl_nil {α : Type} : tl ([] : List α) = [] := Eq.trans rfl rfl
@[simp] theorem tl_cons {α : Type} (x : α) (xs : List α) : tl (x :: xs) = xs := Eq.trans rfl rfl
@[simp] theorem compd {α β γ : Type} (f : β → γ) (g : α → β) : f ∘ g = fun x => f (g x) := Eq.trans rfl rfl
/-! subscripts, slices -/
@[simp] theorem sub_t (xs : List D) (i : Int) : subD (.tup xs) (.int i) = (ixN xs.length i).bind fun j => xs[j]? := by rw [subD]
@[simp] theorem slL_l {α : Type} (e : α → D) (xs : List α) : slcD (.lst (xs.map e)) (some 1) none = some (.lst ((tl xs).map e)) := by
  cases xs with
  | nil => simp [slcD, cut, sIx]
  | cons x xs =>
    rw [slcD]
    simp only [cut, sIx]
    rw [if_neg (by decide)]
    have e1 : min (Int.toNat 1) ((x :: xs).map e).length = 1 := by simp
    rw [e1, List.take_of_length_le (by simp)]
    simp
@[simp] theorem slL_t {α : Type} (e : α → D) (xs : List α) : slcD (.tup (xs.map e)) (some 1) none = some (.tup ((tl xs).map e)) := by
  cases xs with
  | nil => simp [slcD, cut, sIx]
  | cons x xs =>
    rw [slcD]
    simp only [cut, sIx]
    rw [if_neg (by decide)]
    have e1 : min (Int.toNat 1) ((x :: xs).map e).length = 1 := by simp
    rw [e1, List.take_of_length_le (by simp)]
    simp
theorem zipD_map {α β : Type} (e : α → D) (f : β → D) : ∀ (xs : List α) (ys : List β), zipD (xs.map e) (ys.map f) = (xs.zip ys).map fun p => .tup [e p.1, f p.2]
  | [], ys => by simp [zipD]
  | x :: xs, [] => by simp [zipD]
  | x :: xs, y :: ys => by simp [zipD, zipD_map e f xs ys]
@[simp] theorem zipDD_l {α β : Type} (e : α → D) (f : β → D) (xs : List α) (ys : List β) : zipDD (.lst (xs.map e)) (.lst (ys.map f)) = if xs.length ≤ LIM then some ((xs.zip ys).map fun p => .tup [e p.1, f p.2]) else none := by
  rw [zipDD, zipD_map, List.length_map]
@[simp] theorem zipDD_t {α β : Type} (e : α → D) (f : β → D) (xs : List α) (ys : List β) : zipDD (.tup (xs.map e)) (.tup (ys.map f)) = if xs.length ≤ LIM then some ((xs.zip ys).map fun p => .tup [e p.1, f p.2]) else none := by
  rw [zipDD, zipD_map, List.length_map]
end Lw
end
section
/-! reports -/
namespace Lw
open Py
variable {X : List Fd} {k : Nat}
def isInt : D → Bool
  | .int _ => true
  | _ => false
theorem s_is_integer (hk : 1 ≤ k) {d : D} (h : okD d = true) : phi (U X) k 0 [d] = ret (.bl (isInt d)) := at_def rfl (by omega) (by
  cases d <;> first | (cases h; done) | simp [f_is_integer, b_is_integer, isTy, isInt])
def isTm : D → Bool
  | .int i => decide (0 ≤ i) && decide (i ≤ 9999)
  | _ => false
theorem s_is_time (hk : 2 ≤ k) {d : D} (h : okD d = true) : phi (U X) k 1 [d] = ret (.bl (isTm d)) := at_def rfl (by omega) (by
  have z := s_is_integer (X := X) (k := k - 1) (by omega) h
  cases d <;> first | (cases h; done) | simp [f_is_time, b_is_time, z, isInt, isTm])
def nmB (cs : Tx) : Bool := decide (1 ≤ cs.length) && decide (cs.length ≤ 3) && cs.all fun c => Letters.contains c
def isNm : D → Bool
  | .str cs => nmB cs
  | _ => false
theorem s_is_name_s (hk : 1 ≤ k) {cs : Tx} (h : cs.length ≤ LIM) : phi (U X) k 2 [.str cs] = ret (.bl (nmB cs)) := at_def rfl (by omega) (by
  have h' : cs.length ≤ 16777216 := h
  simp [f_is_name, b_is_name, isTy, h', inD, nmB]
  by_cases h1 : (1:Int) ≤ cs.length
  · by_cases h2 : (cs.length : Int) ≤ 3
    · have e1 : 1 ≤ cs.length := by omega
      have e2 : cs.length ≤ 3 := by omega
      simp [h1, h2, e1, e2]
    · have e2 : ¬ cs.length ≤ 3 := by omega
      simp [h1, h2, e2]
  · have e1 : ¬ 1 ≤ cs.length := by omega
    simp [h1, e1])
theorem s_is_name (hk : 1 ≤ k) {d : D} {n : Nat} (h : pl n d = true) : phi (U X) k 2 [d] = ret (.bl (isNm d)) := by
  cases d with
  | str cs => exact s_is_name_s hk (by cases n <;> simpa [pl] using h)
  | _ => first | (cases n <;> simp [pl] at h; done) | exact at_def rfl (by omega) (by simp [f_is_name, b_is_name, isTy, isNm])
/-- a report -/
structure Rp where
  nm : Tx
  lo : Int
  hi : Int
deriving DecidableEq
@[simp] abbrev eR (r : Rp) : D := .tup [.str r.nm, .int r.lo, .int r.hi]
@[simp] abbrev eG (p : Int × Int) : D := .tup [.int p.1, .int p.2]
@[simp] abbrev eRs (rs : List Rp) : D := .tup (rs.map eR)
@[simp] abbrev eGs (ps : List (Int × Int)) : D := .lst (ps.map eG)
@[simp] abbrev eNs (ns : List Tx) : D := .lst (ns.map .str)
@[simp] abbrev tNs (ns : List Tx) : D := .tup (ns.map .str)
def repB (r : Rp) : Bool := nmB r.nm && (decide (0 ≤ r.lo) && decide (r.lo ≤ r.hi) && decide (r.hi ≤ 9999))
def isRep : D → Bool
  | .tup [.str n, .int l, .int h] => repB ⟨n, l, h⟩
  | _ => false
theorem isRep_is {d : D} (h : isRep d = true) : ∃ r, d = eR r ∧ repB r = true := by
  unfold isRep at h
  split at h
  · exact ⟨⟨_, _, _⟩, rfl, h⟩
  · cases h
theorem isRep_no {d : D} (h : ∀ n l hh, d = .tup [.str n, .int l, .int hh] → repB ⟨n, l, hh⟩ = false) : isRep d = false := by
  unfold isRep
  split
  · exact h _ _ _ rfl
  · rfl
theorem isNm_is {d : D} (h : isNm d = true) : ∃ n, d = .str n ∧ nmB n = true := by
  cases d <;> first | exact ⟨_, rfl, h⟩ | cases h
theorem isTm_is {d : D} (h : isTm d = true) : ∃ i, d = .int i ∧ 0 ≤ i ∧ i ≤ 9999 := by
  cases d <;> first | (cases h; done) | skip
  simp only [isTm, Bool.and_eq_true, decide_eq_true_eq] at h
  exact ⟨_, rfl, h⟩
theorem s_is_report3 (hk : 3 ≤ k) {a b c : D} {n : Nat} (ha : pl n a = true) (hb : pl n b = true) (hc : pl n c = true) : phi (U X) k 3 [.tup [a, b, c]] = ret (.bl (isRep (.tup [a, b, c]))) := at_def rfl (by omega) (by
  have z1 := s_is_name (X := X) (k := k - 1) (by omega) ha
  have z2 := s_is_time (X := X) (k := k - 1) (by omega) (pl_ok hb)
  have z3 := s_is_time (X := X) (k := k - 1) (by omega) (pl_ok hc)
  simp [f_is_report, b_is_report, isTy, z1, z2, z3, ixN]
  by_cases h1 : isNm a = true
  · obtain ⟨nm, rfl, h1'⟩ := isNm_is h1
    by_cases h2 : isTm b = true
    · obtain ⟨lo, rfl, h2'⟩ := isTm_is h2
      by_cases h3 : isTm c = true
      · obtain ⟨hi, rfl, h3'⟩ := isTm_is h3
        simp [h1, h2, h3, isRep, repB, h1', h2', h3']
      · have e : isRep (.tup [.str nm, .int lo, c]) = false := isRep_no fun n l h e => by
          cases e
          simp [isTm] at h3
          simp [repB]
          omega
        simp [h1, h2, h3, e]
    · have e : isRep (.tup [.str nm, b, c]) = false := isRep_no fun n l h e => by
        cases e
        simp [isTm] at h2
        simp [repB]
        omega
      simp [h1, h2, e]
  · have e : isRep (.tup [a, b, c]) = false := isRep_no fun n l h e => by
      cases e
      simp [isNm] at h1
      simp [repB, h1]
    simp [h1, e])
theorem s_is_report (hk : 3 ≤ k) {d : D} {n : Nat} (h : pl n d = true) : phi (U X) k 3 [d] = ret (.bl (isRep d)) := by
  have no : ∀ d : D, okD d = true → (∀ xs, d = .tup xs → xs.length ≠ 3) → phi (U X) k 3 [d] = ret (.bl false) := fun d ho hd => at_def rfl (by omega) (by
    cases d <;> first | (cases ho; done) | skip
    case tup xs =>
      have e : ((xs.length : Int) == 3) = false := by
        have := hd xs rfl
        simp; omega
      simp [f_is_report, b_is_report, isTy, e]
    all_goals simp [f_is_report, b_is_report, isTy])
  cases d with
  | tup xs =>
    match xs, h with
    | [a, b, c], h =>
      obtain ⟨m, rfl⟩ : ∃ m, n = m + 1 := by cases n with
        | zero => simp [pl] at h
        | succ m => exact ⟨m, rfl⟩
      simp [pl] at h
      exact s_is_report3 hk h.1 h.2.1 h.2.2
    | [], _ => exact no (.tup []) rfl (fun _ e => by cases e; simp)
    | [x], _ => exact (no (.tup [x]) rfl (fun _ e => by cases e; simp)).trans (by rw [isRep_no fun n l h e => by simp at e])
    | [x, y], _ => exact (no (.tup [x, y]) rfl (fun _ e => by cases e; simp)).trans (by rw [isRep_no fun n l h e => by simp at e])
    | x :: y :: z :: u :: r, _ => exact (no (.tup (x :: y :: z :: u :: r)) rfl (fun _ e => by cases e; simp)).trans (by rw [isRep_no fun n l h e => by simp at e])
  | _ => exact no _ (pl_ok h) (fun _ e => by cases e)
theorem s_sources (hk : 1 ≤ k) (rs : List Rp) : phi (U X) k 4 [eRs rs] = ret (eNs (rs.map (·.nm))) := at_def rfl (by omega) (by
  simp [f_sources, b_sources])
def asc (ns : List Tx) : Bool := (ns.zip (tl ns)).all fun p => txLt p.1 p.2
def repsOf : List D → List Rp
  | .tup [.str n, .int l, .int h] :: r => ⟨n, l, h⟩ :: repsOf r
  | _ => []
def areReps : D → Bool
  | .tup xs => decide (xs.length ≤ 10) && (xs.all isRep && asc ((repsOf xs).map (·.nm)))
  | _ => false
theorem reps_is : ∀ {xs : List D}, xs.all isRep = true → xs = (repsOf xs).map eR ∧ (repsOf xs).all repB = true
  | [], _ => ⟨rfl, rfl⟩
  | x :: xs, h => by
    simp only [List.all_cons, Bool.and_eq_true] at h
    obtain ⟨r, rfl, hr⟩ := isRep_is h.1
    obtain ⟨e1, e2⟩ := reps_is h.2
    refine ⟨?_, ?_⟩
    · show _ = eR r :: (repsOf xs).map eR
      rw [← e1]
    · show (repB r && (repsOf xs).all repB) = true
      rw [hr, e2]; rfl
theorem repsOf_map : ∀ rs : List Rp, repsOf (rs.map eR) = rs
  | [] => rfl
  | r :: rs => by show r :: repsOf (rs.map eR) = _; rw [repsOf_map rs]
theorem s_are_reports (hk : 4 ≤ k) {d : D} {n : Nat} (h : pl (n + 1) d = true) : phi (U X) k 5 [d] = ret (.bl (areReps d)) := at_def rfl (by omega) (by
  cases d with
  | tup xs =>
    by_cases hl : xs.length ≤ 10
    · have hl' : ¬ (10 : Int) < xs.length := by omega
      have hx : ∀ x ∈ xs, phi (U X) (k - 1) 3 [x] = ret (.bl (isRep x)) := fun x hx => by
        simp only [pl, List.all_eq_true] at h
        exact s_is_report (by omega) (h x hx)
      have hc : (compM xs fun x => noexc (bnd (phi (U X) (k - 1) 3 [x]) fun y => ret (some y))) = ret (xs.map fun x => .bl (isRep x)) := compM_ok fun x m => by rw [hx x m]; rfl
      simp [f_are_reports, b_are_reports, isTy, hl, hl', hc]
      by_cases ha : xs.all isRep = true
      · have hz := s_sources (X := X) (k := k - 1) (by omega) (repsOf xs)
        obtain ⟨e1, e2⟩ := reps_is ha
        have hlen : (repsOf xs).length ≤ 16777216 := by
          have := congrArg List.length e1
          simp at this
          omega
        rw [List.all_eq_true] at ha
        have ha' : ∀ x ∈ xs, isRep x = true := ha
        rw [eRs, ← e1] at hz
        have e3 : areReps (.tup xs) = asc ((repsOf xs).map (·.nm)) := by
          show (decide (xs.length ≤ 10) && (xs.all isRep && asc ((repsOf xs).map (·.nm)))) = _
          rw [decide_eq_true hl, List.all_eq_true.mpr ha]
          rfl
        have nf : ¬ ∃ x, x ∈ xs ∧ isRep x = false := fun ⟨x, m, e⟩ => by rw [ha' x m] at e; cases e
        rw [e3]
        have hlen : ((repsOf xs).map (·.nm)).length ≤ 16777216 := by simpa using hlen
        generalize (repsOf xs).map (·.nm) = ns at hz hlen
        simp [hz, nf, hlen, asc]
      · have nf : ∃ x, x ∈ xs ∧ isRep x = false := by simpa using ha
        have e3 : areReps (.tup xs) = false := by
          unfold areReps
          simp [ha]
        simp [nf, e3]
    · have hl' : (10 : Int) < xs.length := by omega
      simp [f_are_reports, b_are_reports, isTy, hl', areReps, hl]
  | _ => first | (simp [pl] at h; done) | simp [f_are_reports, b_are_reports, isTy, areReps])
theorem s_check_reports (hk : 5 ≤ k) {d : D} {n : Nat} (h : pl (n + 1) d = true) : phi (U X) k 6 [d] = if areReps d = true then ret .non else rse 1 := at_def rfl (by omega) (by
  have z := s_are_reports (X := X) (k := k - 1) (by omega) h
  simp [f_check_reports, b_check_reports, z]
  cases areReps d <;> simp)
/-- valid reports -/
structure VR (rs : List Rp) : Prop where
  len : rs.length ≤ 10
  rep : ∀ r ∈ rs, repB r = true
  asc : asc (rs.map (·.nm)) = true
theorem nmB_len {n : Tx} (h : nmB n = true) : n.length ≤ 3 := by
  simp only [nmB, Bool.and_eq_true, decide_eq_true_eq] at h
  omega
theorem repB_nm {r : Rp} (h : repB r = true) : nmB r.nm = true := by
  simp only [repB, Bool.and_eq_true] at h
  exact h.1
theorem repB_t {r : Rp} (h : repB r = true) : 0 ≤ r.lo ∧ r.lo ≤ r.hi ∧ r.hi ≤ 9999 := by
  simp only [repB, Bool.and_eq_true, decide_eq_true_eq] at h
  exact ⟨h.2.1.1, h.2.1.2, h.2.2⟩
theorem VR.pl {rs : List Rp} (h : VR rs) : pl 8 (eRs rs) = true := by
  simp only [Lw.pl, List.all_map, List.all_eq_true, Function.comp, eR]
  intro r hr
  have := nmB_len (repB_nm (h.rep r hr))
  simp [Lw.pl, LIM]
  omega
theorem VR.are {rs : List Rp} (h : VR rs) : areReps (eRs rs) = true := by
  have h1 : (rs.map eR).all isRep = true := by
    rw [List.all_eq_true]
    intro x hx
    obtain ⟨r, hr, rfl⟩ := List.mem_map.mp hx
    exact h.rep r hr
  simp only [areReps, h1, repsOf_map, h.asc, List.length_map, decide_eq_true h.len, Bool.and_self]
theorem VR.of {rs : List Rp} (h : areReps (eRs rs) = true) : VR rs := by
  simp only [areReps, repsOf_map, List.length_map, Bool.and_eq_true, decide_eq_true_eq] at h
  refine ⟨h.1, fun r hr => ?_, h.2.2⟩
  exact List.all_eq_true.mp h.2.1 (eR r) (List.mem_map.mpr ⟨r, hr, rfl⟩)
theorem VR.check {rs : List Rp} (h : VR rs) (hk : 5 ≤ k) : phi (U X) k 6 [eRs rs] = ret .non := by
  rw [s_check_reports hk h.pl, h.are]; rfl
/-! ### who is right -/
def rightB (t : Int) (r : Rp) : Bool := decide (r.lo ≤ t) && decide (t ≤ r.hi)
theorem rightB_fun (t : Int) : rightB t = fun r => decide (r.lo ≤ t) && decide (t ≤ r.hi) := rfl
def rnames (rs : List Rp) (t : Int) : List Tx := (rs.filter (rightB t)).map (·.nm)
def cnt (rs : List Rp) (t : Int) : Nat := (rs.filter (rightB t)).length
@[simp] theorem rnames_len (rs : List Rp) (t : Int) : (rnames rs t).length = cnt rs t := by simp [rnames, cnt]
theorem s_right_names (hk : 1 ≤ k) (rs : List Rp) (t : Int) : phi (U X) k 7 [eRs rs, .int t] = ret (eNs (rnames rs t)) := at_def rfl (by omega) (by
  simp [f_right_names, b_right_names, rnames, rightB_fun])
theorem s_right_at {rs : List Rp} (h : VR rs) (hk : 6 ≤ k) {t : Int} (h0 : 0 ≤ t) (h1 : t ≤ 9999) : phi (U X) k 8 [eRs rs, .int t] = ret (eNs (rnames rs t)) := at_def rfl (by omega) (by
  have z1 := h.check (X := X) (k := k - 1) (by omega)
  have z2 := s_is_time (X := X) (k := k - 1) (d := .int t) (by omega) rfl
  have z3 := s_right_names (X := X) (k := k - 1) (by omega) rs t
  simp [f_right_at, b_right_at, z1, z2, z3, isTm, h0, h1])
/-- where the stretches begin -/
def ends (rs : List Rp) : List Int := [0] ++ rs.map (·.lo) ++ (rs.filter fun r => decide (r.hi < 9999)).map (fun r => r.hi + 1)
def brd (rs : List Rp) : List Int := usort (ends rs)
theorem filter_len {α : Type} (p : α → Bool) (xs : List α) : (xs.filter p).length ≤ xs.length := List.length_filter_le p xs
theorem s_borders (hk : 1 ≤ k) {rs : List Rp} (h : rs.length ≤ 30) : phi (U X) k 9 [eRs rs] = ret (.lst ((brd rs).map .int)) := at_def rfl (by omega) (by
  have h1 := filter_len (fun r : Rp => decide (r.hi < 9999)) rs
  have e : (D.int 0 :: (rs.map (fun r => D.int r.lo) ++ (rs.filter fun r => decide (r.hi < 9999)).map fun r => D.int (r.hi + 1))) = (ends rs).map D.int := by simp [ends]
  have h2 : rs.length + 1 ≤ 16777216 := by omega
  have h2' : 1 + rs.length ≤ 16777216 := by omega
  have h3 : rs.length + 1 + (rs.filter fun r : Rp => decide (r.hi < 9999)).length ≤ 16777216 := by omega
  have h4 : (ends rs).length < 64 := by simp [ends]; omega
  have e2 := b_ssetI (ends rs)
  rw [if_pos h4, ← e] at e2
  simp [f_borders, b_borders, h2, h2', h3, e2, brd])
def pcs (rs : List Rp) : List (Int × Int) := ((brd rs).zip (tl (brd rs) ++ [10000])).map fun p => (p.1, p.2 - 1)
theorem uins_len (x : Int) : ∀ ys : List Int, (uins x ys).length ≤ ys.length + 1
  | [] => by simp [uins]
  | y :: ys => by
    have := uins_len x ys
    unfold uins
    split
    · simp
    · split
      · simp
      · simp; omega
theorem usort_len : ∀ xs : List Int, (usort xs).length ≤ xs.length
  | [] => by simp [usort]
  | x :: xs => by
    have h1 := usort_len xs
    have h2 := uins_len x (usort xs)
    show (uins x (usort xs)).length ≤ xs.length + 1
    omega
theorem brd_len (rs : List Rp) : (brd rs).length ≤ 2 * rs.length + 1 := by
  have h1 := filter_len (fun r : Rp => decide (r.hi < 9999)) rs
  have h2 := usort_len (ends rs)
  have h3 : (ends rs).length ≤ 2 * rs.length + 1 := by simp [ends]; omega
  exact Nat.le_trans h2 h3
theorem s_pieces (hk : 2 ≤ k) {rs : List Rp} (h : rs.length ≤ 30) : phi (U X) k 10 [eRs rs] = ret (eGs (pcs rs)) := at_def rfl (by omega) (by
  have z := s_borders (X := X) (k := k - 1) (by omega) h
  have hb := brd_len rs
  have h1 : (brd rs).length - 1 + 1 ≤ 16777216 := by omega
  have h2 : (brd rs).length ≤ 16777216 := by omega
  have e : (tl (brd rs)).map D.int ++ [D.int 10000] = (tl (brd rs) ++ [10000]).map D.int := by simp
  simp [f_pieces, b_pieces, z, h1, -List.map_append]
  rw [e]
  simp [h2, pcs, -List.map_append])
end Lw
end
section
/-! ranges -/
namespace Lw
open Py
variable {X : List Fd} {k : Nat}
abbrev Rg := Int × Int
/-! ### sorting -/
theorem insB_map {α : Type} {e : α → D} {lt : α → α → Bool} (h : ∀ a b, ltF (e a) (e b) = lt a b) (x : α) : ∀ xs : List α, insB ltF (e x) (xs.map e) = (insB lt x xs).map e
  | [] => rfl
  | y :: ys => by
    simp only [List.map_cons, insB, h]
    split
    · rw [insB_map h x ys]; rfl
    · rfl
theorem isort_map {α : Type} {e : α → D} {lt : α → α → Bool} (h : ∀ a b, ltF (e a) (e b) = lt a b) : ∀ xs : List α, isort ltF (xs.map e) = (isort lt xs).map e
  | [] => rfl
  | x :: xs => by
    simp only [List.map_cons, isort]
    rw [isort_map h xs, insB_map h]
theorem insB_perm {α : Type} {lt : α → α → Bool} (x : α) : ∀ xs : List α, (insB lt x xs).Perm (x :: xs)
  | [] => .refl _
  | y :: ys => by
    simp only [insB]
    split
    · exact ((insB_perm x ys).cons y).trans (.swap x y ys)
    · exact .refl _
theorem isort_perm {α : Type} {lt : α → α → Bool} : ∀ xs : List α, (isort lt xs).Perm xs
  | [] => .refl _
  | x :: xs => (insB_perm x _).trans ((isort_perm xs).cons x)
theorem isort_mem {α : Type} {lt : α → α → Bool} {xs : List α} {x : α} : x ∈ isort lt xs ↔ x ∈ xs := (isort_perm xs).mem_iff
theorem insB_sorted {α : Type} {lt : α → α → Bool} (R : α → α → Prop) (h1 : ∀ x y, lt x y = true → R x y) (h2 : ∀ x y, lt x y = false → R y x) (tr : ∀ x y z, R x y → R y z → R x z) (x : α) : ∀ xs : List α, xs.Pairwise R → (insB lt x xs).Pairwise R
  | [], _ => by simp [insB]
  | y :: ys, h => by
    obtain ⟨ha, hb⟩ := List.pairwise_cons.mp h
    simp only [insB]
    split
    · rename_i q
      refine List.pairwise_cons.mpr ⟨fun z hz => ?_, insB_sorted R h1 h2 tr x ys hb⟩
      rcases List.mem_cons.mp ((insB_perm x ys).mem_iff.mp hz) with rfl | hz
      · exact h1 _ _ q
      · exact ha z hz
    · rename_i q
      have q : lt y x = false := by simpa using q
      refine List.pairwise_cons.mpr ⟨fun z hz => ?_, h⟩
      rcases List.mem_cons.mp hz with rfl | hz
      · exact h2 _ _ q
      · exact tr _ _ _ (h2 _ _ q) (ha z hz)
theorem isort_sorted {α : Type} {lt : α → α → Bool} (R : α → α → Prop) (h1 : ∀ x y, lt x y = true → R x y) (h2 : ∀ x y, lt x y = false → R y x) (tr : ∀ x y z, R x y → R y z → R x z) : ∀ xs : List α, (isort lt xs).Pairwise R
  | [] => List.Pairwise.nil
  | x :: xs => insB_sorted R h1 h2 tr x _ (isort_sorted R h1 h2 tr xs)
def ltG (p q : Rg) : Bool := if p.1 = q.1 then decide (p.2 < q.2) else decide (p.1 < q.1)
theorem sortD_tup {α : Type} {e : α → D} {lt : α → α → Bool} {sh : Nat → Bool} (h : ∀ a b, ltF (e a) (e b) = lt a b) (hs : sh ∈ shapes) (ht : ∀ a, tupF sh (e a) = true) (xs : List α) : sortD (xs.map e) = some ((isort lt xs).map e) := by
  have h4 : sortOk (xs.map e) = true := by
    unfold sortOk
    rw [Bool.or_eq_true, Bool.or_eq_true]
    right; right
    exact List.any_eq_true.mpr ⟨sh, hs, by simp [ht]⟩
  unfold sortD
  rw [h4, isort_map h]
  rfl
theorem ltF_G (p q : Rg) : ltF (eG p) (eG q) = ltG p q := by
  simp only [eG, ltF, ltFl, ltI, ltG]
  by_cases h : p.1 = q.1
  · simp [h]
  · by_cases h2 : p.1 < q.1
    · simp [h, h2]
    · have h3 : q.1 < p.1 := by omega
      simp [h, h2, h3]
@[simp] theorem b_sortedG (ps : List Rg) : bltD .sorted [.lst (ps.map eG)] = some (eGs (isort ltG ps)) := by
  rw [bltD, sortedD, sortD_tup (sh := fun _ => false) ltF_G (.head _) (fun _ => rfl)]
  rfl
theorem ltG_le : ∀ (ps : List Rg), (isort ltG ps).Pairwise fun a b => a.1 ≤ b.1 := isort_sorted _ (fun x y h => by
    unfold ltG at h
    split at h
    · omega
    · simp at h; omega) (fun x y h => by
    unfold ltG at h
    split at h
    · omega
    · simp at h; omega) (fun x y z => by omega)
/-! ### sets of times -/
def inR (ps : List Rg) (t : Int) : Prop := ∃ p ∈ ps, p.1 ≤ t ∧ t ≤ p.2
structure Neat (ps : List Rg) : Prop where
  gap : ps.Pairwise fun a b => a.2 + 1 < b.1
  ne : ∀ p ∈ ps, p.1 ≤ p.2
theorem inR_nil (t : Int) : ¬ inR [] t := fun ⟨_, h, _⟩ => by simp at h
theorem inR_cons {p : Rg} {ps : List Rg} {t : Int} : inR (p :: ps) t ↔ (p.1 ≤ t ∧ t ≤ p.2) ∨ inR ps t := by
  unfold inR
  constructor
  · rintro ⟨q, hq, h⟩
    rcases List.mem_cons.mp hq with rfl | hq
    · exact .inl h
    · exact .inr ⟨q, hq, h⟩
  · rintro (h | ⟨q, hq, h⟩)
    · exact ⟨p, by simp, h⟩
    · exact ⟨q, List.mem_cons_of_mem _ hq, h⟩
theorem inR_app {ps qs : List Rg} {t : Int} : inR (ps ++ qs) t ↔ inR ps t ∨ inR qs t := by
  induction ps with
  | nil => simp [inR_nil]
  | cons p ps ih => rw [List.cons_append, inR_cons, inR_cons, ih, or_assoc]
theorem Neat.nil : Neat [] := ⟨List.Pairwise.nil, by simp⟩
theorem Neat.tail {p : Rg} {ps : List Rg} (h : Neat (p :: ps)) : Neat ps := ⟨(List.pairwise_cons.mp h.gap).2, fun q hq => h.ne q (List.mem_cons_of_mem _ hq)⟩
theorem Neat.after {p : Rg} {ps : List Rg} (h : Neat (p :: ps)) {t : Int} (ht : inR ps t) : p.2 + 1 < t := by
  obtain ⟨q, hq, h1, h2⟩ := ht
  have := (List.pairwise_cons.mp h.gap).1 q hq
  omega
/-- a set of times is told by just one neat list -/
theorem neat_uniq : ∀ {ps qs : List Rg}, Neat ps → Neat qs → (∀ t, inR ps t ↔ inR qs t) → ps = qs
  | [], [], _, _, _ => rfl
  | [], q :: qs, _, hq, h => by
    have := (h q.1).mpr (inR_cons.mpr (.inl ⟨Int.le_refl _, hq.ne q (by simp)⟩))
    exact absurd this (inR_nil _)
  | p :: ps, [], hp, _, h => by
    have := (h p.1).mp (inR_cons.mpr (.inl ⟨Int.le_refl _, hp.ne p (by simp)⟩))
    exact absurd this (inR_nil _)
  | p :: ps, q :: qs, hp, hq, h => by
    have np := hp.ne p (by simp)
    have nq := hq.ne q (by simp)
    have low : ∀ {p : Rg} {ps : List Rg}, Neat (p :: ps) → ∀ t, inR (p :: ps) t → p.1 ≤ t := fun {p ps} hp t ht => by
      rcases inR_cons.mp ht with h | h
      · exact h.1
      · have := hp.after h
        have := hp.ne p (by simp)
        omega
    have e1 : p.1 = q.1 := by
      have a1 := low hq p.1 ((h p.1).mp (inR_cons.mpr (.inl ⟨Int.le_refl _, np⟩)))
      have a2 := low hp q.1 ((h q.1).mpr (inR_cons.mpr (.inl ⟨Int.le_refl _, nq⟩)))
      omega
    have top : ∀ {p q : Rg} {ps qs : List Rg}, Neat (p :: ps) → Neat (q :: qs) → p.1 = q.1 → (∀ t, inR (p :: ps) t → inR (q :: qs) t) → p.2 ≤ q.2 := fun {p q ps qs} hp hq e h => by
      apply Int.not_lt.mp
      intro hlt
      have nq := hq.ne q (by simp)
      have := h (q.2 + 1) (inR_cons.mpr (.inl ⟨by omega, by omega⟩))
      rcases inR_cons.mp this with z | z
      · omega
      · have := hq.after z
        omega
    have e2 : p.2 = q.2 := by
      have a1 := top hp hq e1 fun t => (h t).mp
      have a2 := top hq hp e1.symm fun t => (h t).mpr
      omega
    have e : p = q := Prod.ext e1 e2
    subst e
    congr 1
    refine neat_uniq hp.tail hq.tail fun t => ?_
    constructor
    · intro ht
      have a := hp.after ht
      rcases inR_cons.mp ((h t).mp (inR_cons.mpr (.inr ht))) with z | z
      · omega
      · exact z
    · intro ht
      have a := hq.after ht
      rcases inR_cons.mp ((h t).mpr (inR_cons.mpr (.inr ht))) with z | z
      · omega
      · exact z
/-! ### merged -/
def mstep (acc : List Rg) (p : Rg) : List Rg := match acc.getLast? with
  | some b => if p.1 ≤ b.2 + 1 then acc.dropLast ++ [(b.1, if p.2 > b.2 then p.2 else b.2)] else acc ++ [p]
  | none => [p]
def mrg (ps : List Rg) : List Rg := (isort ltG ps).foldl mstep []
theorem mstep_nil (p : Rg) : mstep [] p = [p] := rfl
theorem mstep_snoc (ys : List Rg) (b p : Rg) : mstep (ys ++ [b]) p = if p.1 ≤ b.2 + 1 then ys ++ [(b.1, if p.2 > b.2 then p.2 else b.2)] else ys ++ [b] ++ [p] := by simp [mstep]
theorem snoc_cases {α : Type} (xs : List α) : xs = [] ∨ ∃ ys b, xs = ys ++ [b] := by
  rcases List.eq_nil_or_concat xs with h | ⟨ys, b, h⟩
  · exact .inl h
  · exact .inr ⟨ys, b, by simpa using h⟩
theorem mstep_len (acc : List Rg) (p : Rg) : (mstep acc p).length ≤ acc.length + 1 := by
  rcases snoc_cases acc with rfl | ⟨ys, b, rfl⟩
  · simp [mstep_nil]
  · rw [mstep_snoc]; split <;> simp
theorem mfold_len (ps : List Rg) : ∀ acc : List Rg, (ps.foldl mstep acc).length ≤ acc.length + ps.length := by
  induction ps with
  | nil => intro acc; simp
  | cons p ps ih =>
    intro acc
    have h1 := ih (mstep acc p)
    have h2 := mstep_len acc p
    simp only [List.foldl_cons, List.length_cons]
    omega
theorem s_merged (hk : 1 ≤ k) {ps : List Rg} (h : ps.length ≤ 1000000) : phi (U X) k 20 [eGs ps] = ret (eGs (mrg ps)) := at_def rfl (by omega) (by
  obtain ⟨r', h1, s2, s3, s4, rfl⟩ := fo_inv (L := Lk' X (k - 1)) (s := l0_merged) (xs := isort ltG ps) (e := eG) (r0 := [.v (eGs ps), .o [], .none, .none, .none]) rfl (by simp)
    (fun pre r => ∃ s2 s3 s4, r = [.v (eGs ps), .o ((pre.foldl mstep []).map eG), s2, s3, s4]) ⟨_, _, _, rfl⟩ (by
      rintro pre p post r e ⟨s2, s3, s4, rfl⟩
      have hl : (pre.foldl mstep []).length ≤ 1000000 := by
        have h1 := mfold_len pre []
        have h2 := congrArg List.length e
        have h3 := (isort_perm (lt := ltG) ps).length_eq
        simp at h1 h2
        omega
      simp only [List.foldl_append, List.foldl_cons, List.foldl_nil]
      generalize pre.foldl mstep [] = acc at hl
      rcases snoc_cases acc with rfl | ⟨ys, b, rfl⟩
      · simp [l0b_merged]
        exact goes ⟨_, _, _, rfl⟩
      · have hl1 : ys.length < 16777216 := by simp at hl; omega
        have hl2 : ys.length + 1 < 16777216 := by simp at hl; omega
        by_cases hc : p.1 ≤ b.2 + 1
        · rw [mstep_snoc, if_pos hc, List.map_append]
          simp [l0b_merged, ixN, hc, hl1, hl2]
          exact goes ⟨_, _, _, rfl⟩
        · rw [mstep_snoc, if_neg hc, List.map_append]
          simp [l0b_merged, ixN, hc, hl1, hl2]
          exact goes ⟨_, _, _, rfl⟩)
  simp [f_merged, b_merged, h1, mrg])
end Lw
end
section
/-! possible times -/
namespace Lw
open Py
variable {X : List Fd} {k : Nat}
theorem Neat.snoc {ys : List Rg} {b : Rg} (h : Neat (ys ++ [b])) : Neat ys ∧ (∀ y ∈ ys, y.2 + 1 < b.1) ∧ b.1 ≤ b.2 := by
  obtain ⟨h1, h2, h3⟩ := List.pairwise_append.mp h.gap
  exact ⟨⟨h1, fun p hp => h.ne p (by simp [hp])⟩, fun y hy => h3 y hy b (by simp), h.ne b (by simp)⟩
theorem Neat.mk_snoc {ys : List Rg} {b : Rg} (h : Neat ys) (h1 : ∀ y ∈ ys, y.2 + 1 < b.1) (h2 : b.1 ≤ b.2) : Neat (ys ++ [b]) :=
  ⟨List.pairwise_append.mpr ⟨h.gap, List.pairwise_singleton _ _, fun a ha c hc => by rw [List.mem_singleton.mp hc]; exact h1 a ha⟩, fun p hp => by
    rcases List.mem_append.mp hp with hp | hp
    · exact h.ne p hp
    · rw [List.mem_singleton.mp hp]; exact h2⟩
theorem mfold : ∀ (ps acc : List Rg), Neat acc → (∀ p ∈ ps, p.1 ≤ p.2) → (ps.Pairwise fun a b => a.1 ≤ b.1) → (∀ p ∈ ps, ∀ b ∈ acc, b.1 ≤ p.1) → Neat (ps.foldl mstep acc) ∧ ∀ t, inR (ps.foldl mstep acc) t ↔ inR acc t ∨ inR ps t
  | [], acc, h, _, _, _ => ⟨h, fun t => by simp [inR_nil]⟩
  | p :: ps, acc, h, hn, hs, ha => by
    obtain ⟨s1, s2⟩ := List.pairwise_cons.mp hs
    have pn := hn p (by simp)
    have key : Neat (mstep acc p) ∧ (∀ t, inR (mstep acc p) t ↔ inR acc t ∨ (p.1 ≤ t ∧ t ≤ p.2)) ∧ ∀ b ∈ mstep acc p, b.1 ≤ p.1 := by
      rcases snoc_cases acc with rfl | ⟨ys, b, rfl⟩
      · rw [mstep_nil]
        exact ⟨⟨List.pairwise_singleton _ _, by simp [pn]⟩, fun t => by simp [inR_cons, inR_nil], by simp⟩
      · obtain ⟨n1, n2, n3⟩ := h.snoc
        have hb := ha p (by simp) b (by simp)
        rw [mstep_snoc]
        by_cases hc : p.1 ≤ b.2 + 1
        · rw [if_pos hc]
          refine ⟨n1.mk_snoc n2 (by simp only; split <;> omega), fun t => ?_, fun c hc' => ?_⟩
          · rw [inR_app, inR_app, inR_cons, inR_cons]
            simp only [inR_nil, or_false]
            by_cases hi : inR ys t
            · simp [hi]
            · simp only [hi, false_or]
              constructor
              · intro ⟨q1, q2⟩
                split at q2 <;> omega
              · intro q
                refine ⟨by omega, ?_⟩
                split <;> omega
          · rcases List.mem_append.mp hc' with hc' | hc'
            · exact ha p (by simp) c (by simp [hc'])
            · rw [List.mem_singleton.mp hc']; exact hb
        · rw [if_neg hc]
          refine ⟨h.mk_snoc (fun y hy => ?_) pn, fun t => by rw [inR_app, inR_cons]; simp [inR_nil], fun c hc' => ?_⟩
          · rcases List.mem_append.mp hy with hy | hy
            · have := n2 y hy; omega
            · rw [List.mem_singleton.mp hy]; omega
          · rcases List.mem_append.mp hc' with hc' | hc'
            · exact ha p (by simp) c hc'
            · rw [List.mem_singleton.mp hc']; exact Int.le_refl _
    obtain ⟨k1, k2, k3⟩ := key
    obtain ⟨r1, r2⟩ := mfold ps (mstep acc p) k1 (fun q hq => hn q (by simp [hq])) s2 (fun q hq b hb => Int.le_trans (k3 b hb) (s1 q hq))
    refine ⟨r1, fun t => ?_⟩
    rw [List.foldl_cons, r2, k2, inR_cons, or_assoc]
theorem inR_perm {ps qs : List Rg} (h : ps.Perm qs) (t : Int) : inR ps t ↔ inR qs t := by
  unfold inR
  constructor
  · rintro ⟨p, hp, q⟩; exact ⟨p, h.mem_iff.mp hp, q⟩
  · rintro ⟨p, hp, q⟩; exact ⟨p, h.mem_iff.mpr hp, q⟩
theorem mrg_spec {ps : List Rg} (h : ∀ p ∈ ps, p.1 ≤ p.2) : Neat (mrg ps) ∧ ∀ t, inR (mrg ps) t ↔ inR ps t := by
  obtain ⟨h1, h2⟩ := mfold (isort ltG ps) [] Neat.nil (fun p hp => h p (isort_mem.mp hp)) (ltG_le ps) (fun _ _ _ hb => by simp at hb)
  refine ⟨h1, fun t => (h2 t).trans ?_⟩
  rw [inR_perm (isort_perm ps)]
  simp [inR_nil]
theorem mrg_len (ps : List Rg) : (mrg ps).length ≤ ps.length := by
  have h1 := mfold_len (isort ltG ps) []
  have h2 := (isort_perm (lt := ltG) ps).length_eq
  simp at h1
  unfold mrg
  omega
/-! ### stretches -/
def strch : List Int → List Rg
  | [] => []
  | [b] => [(b, 9999)]
  | b :: c :: r => (b, c - 1) :: strch (c :: r)
theorem strch_eq : ∀ bs : List Int, (bs.zip (tl bs ++ [10000])).map (fun p => (p.1, p.2 - 1)) = strch bs
  | [] => rfl
  | [b] => rfl
  | b :: c :: r => by
    have := strch_eq (c :: r)
    simp only [tl, List.drop_succ_cons, List.drop_zero] at this ⊢
    simp only [List.cons_append, List.zip_cons_cons, List.map_cons, strch]
    rw [← this]
theorem strch_in : ∀ {bs : List Int}, bs.Pairwise (· < ·) → (∀ b ∈ bs, b ≤ 9999) → ∀ p ∈ strch bs, p.1 ∈ bs ∧ p.1 ≤ p.2 ∧ p.2 ≤ 9999 ∧ ∀ b ∈ bs, b ≤ p.1 ∨ p.2 < b
  | [], _, _, p, hp => by simp [strch] at hp
  | [b], _, hb, p, hp => by
    simp only [strch, List.mem_singleton] at hp
    subst hp
    have := hb b (by simp)
    simp
    omega
  | b :: c :: r, hs, hb, p, hp => by
    obtain ⟨s1, s2⟩ := List.pairwise_cons.mp hs
    simp only [strch, List.mem_cons] at hp
    have hbc := s1 c (by simp)
    rcases hp with rfl | hp
    · refine ⟨by simp, by simp only; omega, by have := hb c (by simp); simp only; omega, fun x hx => ?_⟩
      simp only
      rcases List.mem_cons.mp hx with rfl | hx
      · omega
      · rcases List.mem_cons.mp hx with rfl | hx
        · omega
        · have := (List.pairwise_cons.mp s2).1 x hx; omega
    · obtain ⟨q1, q2, q3, q4⟩ := strch_in s2 (fun x hx => hb x (by simp [hx])) p hp
      refine ⟨by simp [q1], q2, q3, fun x hx => ?_⟩
      rcases List.mem_cons.mp hx with rfl | hx
      · left
        have := s1 p.1 q1
        omega
      · exact q4 x hx
theorem strch_cover : ∀ {bs : List Int} {t b : Int}, bs.head? = some b → b ≤ t → t ≤ 9999 → inR (strch bs) t
  | [], t, b, h, _, _ => by simp at h
  | [c], t, b, h, h1, h2 => by
    simp at h; subst h
    exact ⟨(c, 9999), by simp [strch], h1, h2⟩
  | c :: d :: r, t, b, h, h1, h2 => by
    simp at h; subst h
    by_cases q : t < d
    · exact ⟨(c, d - 1), by simp [strch], h1, by simp only; omega⟩
    · obtain ⟨p, hp, z⟩ := strch_cover (bs := d :: r) (t := t) (b := d) rfl (by omega) h2
      exact ⟨p, by simp [strch, hp], z⟩
/-! sorted without equal ones -/
theorem uins_mem {x y : Int} : ∀ {ys : List Int}, y ∈ uins x ys ↔ y = x ∨ y ∈ ys
  | [] => by simp [uins]
  | z :: zs => by
    unfold uins
    split
    · simp
    · split
      · rename_i h; subst h; simp
      · simp only [List.mem_cons, uins_mem (ys := zs)]
        constructor
        · rintro (h | h | h) <;> simp [h]
        · rintro (h | h | h) <;> simp [h]
theorem usort_mem {y : Int} : ∀ {xs : List Int}, y ∈ usort xs ↔ y ∈ xs
  | [] => by simp [usort]
  | x :: xs => by
    show y ∈ uins x (usort xs) ↔ _
    rw [uins_mem, usort_mem, List.mem_cons]
theorem uins_asc (x : Int) : ∀ {ys : List Int}, ys.Pairwise (· < ·) → (uins x ys).Pairwise (· < ·)
  | [], _ => by simp [uins]
  | y :: ys, h => by
    obtain ⟨h1, h2⟩ := List.pairwise_cons.mp h
    unfold uins
    split
    · rename_i q
      refine List.pairwise_cons.mpr ⟨fun z hz => ?_, h⟩
      rcases List.mem_cons.mp hz with rfl | hz
      · exact q
      · exact Int.lt_trans q (h1 z hz)
    · split
      · exact h
      · rename_i q1 q2
        refine List.pairwise_cons.mpr ⟨fun z hz => ?_, uins_asc x h2⟩
        rcases uins_mem.mp hz with rfl | hz
        · omega
        · exact h1 z hz
theorem usort_asc : ∀ xs : List Int, (usort xs).Pairwise (· < ·)
  | [] => List.Pairwise.nil
  | x :: xs => uins_asc x (usort_asc xs)
theorem asc_head {xs : List Int} {a : Int} (h : xs.Pairwise (· < ·)) (ha : a ∈ xs) (hl : ∀ x ∈ xs, a ≤ x) : xs.head? = some a := by
  cases xs with
  | nil => simp at ha
  | cons x xs =>
    rcases List.mem_cons.mp ha with rfl | ha
    · rfl
    · have h1 := (List.pairwise_cons.mp h).1 a ha
      have h2 := hl x (by simp)
      omega
/-- times in the day -/
structure TR (rs : List Rp) : Prop where
  t : ∀ r ∈ rs, 0 ≤ r.lo ∧ r.lo ≤ r.hi ∧ r.hi ≤ 9999
theorem VR.tr {rs : List Rp} (h : VR rs) : TR rs := ⟨fun r hr => repB_t (h.rep r hr)⟩
theorem ends_mem {rs : List Rp} {b : Int} : b ∈ ends rs ↔ b = 0 ∨ (∃ r ∈ rs, r.lo = b) ∨ ∃ r ∈ rs, r.hi < 9999 ∧ r.hi + 1 = b := by
  simp [ends, and_assoc]
theorem brd_rng {rs : List Rp} (h : TR rs) : ∀ b ∈ brd rs, 0 ≤ b ∧ b ≤ 9999 := by
  intro b hb
  rcases ends_mem.mp (usort_mem.mp hb) with rfl | ⟨r, hr, rfl⟩ | ⟨r, hr, h1, rfl⟩
  · omega
  · have := h.t r hr; omega
  · have := h.t r hr; omega
theorem brd_head {rs : List Rp} (h : TR rs) : (brd rs).head? = some 0 := asc_head (usort_asc _) (usort_mem.mpr (ends_mem.mpr (.inl rfl))) fun x hx => (brd_rng h x hx).1
theorem pcs_eq (rs : List Rp) : pcs rs = strch (brd rs) := strch_eq _
/-- within a stretch the same ones are right -/
theorem pcs_same {rs : List Rp} (h : TR rs) {p : Rg} (hp : p ∈ pcs rs) : 0 ≤ p.1 ∧ p.1 ≤ p.2 ∧ p.2 ≤ 9999 ∧ ∀ t, p.1 ≤ t → t ≤ p.2 → ∀ r ∈ rs, rightB t r = rightB p.1 r := by
  rw [pcs_eq] at hp
  obtain ⟨h1, h2, h3, h4⟩ := strch_in (usort_asc _) (fun b hb => (brd_rng h b hb).2) p hp
  refine ⟨(brd_rng h _ h1).1, h2, h3, fun t t1 t2 r hr => ?_⟩
  have a1 := h4 r.lo (usort_mem.mpr (ends_mem.mpr (.inr (.inl ⟨r, hr, rfl⟩))))
  have a2 : r.hi < 9999 → r.hi + 1 ≤ p.1 ∨ p.2 < r.hi + 1 := fun q => h4 _ (usort_mem.mpr (ends_mem.mpr (.inr (.inr ⟨r, hr, q, rfl⟩))))
  have a3 := h.t r hr
  unfold rightB
  have e1 : decide (r.lo ≤ t) = decide (r.lo ≤ p.1) := by
    by_cases q : r.lo ≤ p.1
    · rw [decide_eq_true q, decide_eq_true (by omega)]
    · rw [decide_eq_false q, decide_eq_false (by omega)]
  have e2 : decide (t ≤ r.hi) = decide (p.1 ≤ r.hi) := by
    by_cases q : p.1 ≤ r.hi
    · rw [decide_eq_true q, decide_eq_true (by omega)]
    · rw [decide_eq_false q, decide_eq_false (by omega)]
  rw [e1, e2]
theorem pcs_rn {rs : List Rp} (h : TR rs) {p : Rg} (hp : p ∈ pcs rs) {t : Int} (h1 : p.1 ≤ t) (h2 : t ≤ p.2) : rs.filter (rightB t) = rs.filter (rightB p.1) := List.filter_congr fun r hr => (pcs_same h hp).2.2.2 t h1 h2 r hr
theorem pcs_cnt {rs : List Rp} (h : TR rs) {p : Rg} (hp : p ∈ pcs rs) {t : Int} (h1 : p.1 ≤ t) (h2 : t ≤ p.2) : cnt rs t = cnt rs p.1 := by unfold cnt; rw [pcs_rn h hp h1 h2]
theorem pcs_names {rs : List Rp} (h : TR rs) {p : Rg} (hp : p ∈ pcs rs) {t : Int} (h1 : p.1 ≤ t) (h2 : t ≤ p.2) : rnames rs t = rnames rs p.1 := by unfold rnames; rw [pcs_rn h hp h1 h2]
theorem pcs_cover {rs : List Rp} (h : TR rs) {t : Int} (h1 : 0 ≤ t) (h2 : t ≤ 9999) : inR (pcs rs) t := by rw [pcs_eq]; exact strch_cover (brd_head h) h1 h2
theorem pcs_len (rs : List Rp) : (pcs rs).length ≤ 2 * rs.length + 1 := by
  have := brd_len rs
  unfold pcs
  simp
  omega
/-! ### the times with many right ones -/
def withM (rs : List Rp) (m : Int) : List Rg := mrg ((pcs rs).filter fun p => decide (m ≤ (cnt rs p.1 : Int)))
theorem withM_spec {rs : List Rp} (h : TR rs) (m : Int) : Neat (withM rs m) ∧ ∀ t, inR (withM rs m) t ↔ 0 ≤ t ∧ t ≤ 9999 ∧ m ≤ (cnt rs t : Int) := by
  obtain ⟨h1, h2⟩ := mrg_spec (ps := (pcs rs).filter fun p => decide (m ≤ (cnt rs p.1 : Int))) fun p hp => (pcs_same h (List.mem_filter.mp hp).1).2.1
  refine ⟨h1, fun t => (h2 t).trans ⟨?_, ?_⟩⟩
  · rintro ⟨p, hp, t1, t2⟩
    obtain ⟨p1, p2⟩ := List.mem_filter.mp hp
    have := pcs_same h p1
    have e := pcs_cnt h p1 t1 t2
    have := of_decide_eq_true p2
    refine ⟨by omega, by omega, by omega⟩
  · rintro ⟨t1, t2, t3⟩
    obtain ⟨p, hp, q1, q2⟩ := pcs_cover h t1 t2
    refine ⟨p, List.mem_filter.mpr ⟨hp, decide_eq_true ?_⟩, q1, q2⟩
    rw [← pcs_cnt h hp q1 q2]
    exact t3
theorem withM_len (rs : List Rp) (m : Int) : (withM rs m).length ≤ 2 * rs.length + 1 := by
  have h1 := pcs_len rs
  have h2 := filter_len (fun p : Rg => decide (m ≤ (cnt rs p.1 : Int))) (pcs rs)
  exact Nat.le_trans (Nat.le_trans (mrg_len _) h2) h1
theorem s_times_with (hk : 3 ≤ k) {rs : List Rp} (h : rs.length ≤ 30) (m : Int) : phi (U X) k 22 [eRs rs, .int m] = ret (eGs (withM rs m)) := at_def rfl (by omega) (by
  have z1 := s_pieces (X := X) (k := k - 1) (by omega) h
  have z2 := fun t => s_right_names (X := X) (k := k - 1) (by omega) rs t
  have hl : ((pcs rs).filter fun p => decide (m ≤ (cnt rs p.1 : Int))).length ≤ 1000000 := by
    have h1 := pcs_len rs
    exact Nat.le_trans (filter_len _ _) (by omega)
  have z3 := s_merged (X := X) (k := k - 1) (by omega) hl
  have e : ∀ ps : List Rg, ps.map (fun x => D.tup [.int x.1, .int x.2]) = ps.map eG := fun _ => rfl
  simp [f_times_with, b_times_with, z1, z2, ixN]
  rw [e, z3]
  rfl)
theorem s_possible_times (hk : 4 ≤ k) {rs : List Rp} (h : rs.length ≤ 30) (f : Int) : phi (U X) k 23 [eRs rs, .int f] = ret (eGs (withM rs (rs.length - f))) := at_def rfl (by omega) (by
  have z := s_times_with (X := X) (k := k - 1) (by omega) h (rs.length - f)
  simp [f_possible_times, b_possible_times, z])
def isLi : D → Bool
  | .int i => decide (0 ≤ i) && decide (i ≤ 10)
  | _ => false
theorem s_check_liars (hk : 2 ≤ k) {d : D} (h : okD d = true) : phi (U X) k 21 [d] = if isLi d = true then ret .non else rse 5 := at_def rfl (by omega) (by
  have z := s_is_integer (X := X) (k := k - 1) (by omega) h
  cases d <;> first | (cases h; done) | simp [f_check_liars, b_check_liars, z, isInt, isLi]
  rename_i i
  by_cases h1 : 0 ≤ i <;> by_cases h2 : i ≤ 10 <;> simp [h1, h2]
  all_goals (intros; omega))
theorem li_ok (hk : 2 ≤ k) {f : Int} (h0 : 0 ≤ f) (h1 : f ≤ 10) : phi (U X) k 21 [.int f] = ret .non := by
  rw [s_check_liars hk rfl, if_pos (by simp [isLi, h0, h1])]
abbrev poss (rs : List Rp) (f : Int) : List Rg := withM rs (rs.length - f)
theorem s_possible {rs : List Rp} (h : VR rs) (hk : 6 ≤ k) {f : Int} (h0 : 0 ≤ f) (h1 : f ≤ 10) : phi (U X) k 24 [eRs rs, .int f] = ret (eGs (poss rs f)) := at_def rfl (by omega) (by
  have z1 := h.check (X := X) (k := k - 1) (by omega)
  have z2 := li_ok (X := X) (k := k - 1) (by omega) h0 h1
  have z3 := s_possible_times (X := X) (k := k - 1) (by omega) (Nat.le_trans h.len (by decide)) f
  simp [f_possible, b_possible, z1, z2, z3])
def hullD (ps : List Rg) : D := match ps.head?, ps.getLast? with
  | some a, some b => eG (a.1, b.2)
  | _, _ => .non
theorem s_hull (hk : 1 ≤ k) (ps : List Rg) : phi (U X) k 25 [eGs ps] = ret (hullD ps) := at_def rfl (by omega) (by
  rcases ps with _ | ⟨p, qs⟩
  · simp [f_hull, b_hull, hullD]
  · rcases snoc_cases (p :: qs) with h | ⟨ys, b, h⟩
    · simp at h
    · have e1 : subD (.lst ((p :: qs).map eG)) (.int (-1)) = some (eG b) := by rw [h, List.map_append]; exact sub_last _ _
      have e2 : (p :: qs).getLast? = some b := by rw [h]; simp
      simp only [List.map_cons] at e1
      simp [f_hull, b_hull, hullD, e1, e2, ixN])
theorem s_agreed {rs : List Rp} (h : VR rs) (hk : 6 ≤ k) {f : Int} (h0 : 0 ≤ f) (h1 : f ≤ 10) : phi (U X) k 26 [eRs rs, .int f] = ret (hullD (poss rs f)) := at_def rfl (by omega) (by
  have z1 := h.check (X := X) (k := k - 1) (by omega)
  have z2 := li_ok (X := X) (k := k - 1) (by omega) h0 h1
  have z3 := s_possible_times (X := X) (k := k - 1) (by omega) (Nat.le_trans h.len (by decide)) f
  have z4 := s_hull (X := X) (k := k - 1) (by omega) (poss rs f)
  simp [f_agreed, b_agreed, z1, z2, z3, z4])
/-- the most that are right at once -/
def most (rs : List Rp) : Nat := ((pcs rs).map fun p => cnt rs p.1).foldl max 0
theorem fold_max : ∀ (xs : List Nat) (a : Nat), (∀ x ∈ xs, x ≤ xs.foldl max a) ∧ a ≤ xs.foldl max a ∧ (xs.foldl max a = a ∨ xs.foldl max a ∈ xs)
  | [], a => by simp
  | x :: xs, a => by
    obtain ⟨h1, h2, h3⟩ := fold_max xs (max a x)
    simp only [List.foldl_cons]
    refine ⟨fun y hy => ?_, by omega, ?_⟩
    · rcases List.mem_cons.mp hy with rfl | hy
      · omega
      · exact h1 y hy
    · rcases h3 with h3 | h3
      · rw [h3]
        by_cases q : a ≤ x
        · right; rw [Nat.max_eq_right q]; simp
        · left; omega
      · right; simp [h3]
theorem max_is {ns : List Int} {m : Int} (h : m ∈ ns) (h2 : ∀ n ∈ ns, n ≤ m) : ns.max? = some m := List.max?_eq_some_iff.mpr ⟨h, h2⟩
theorem min_is {ns : List Int} {m : Int} (h : m ∈ ns) (h2 : ∀ n ∈ ns, m ≤ n) : ns.min? = some m := List.min?_eq_some_iff.mpr ⟨h, h2⟩
theorem pcs_ne {rs : List Rp} (h : TR rs) : pcs rs ≠ [] := by
  obtain ⟨p, hp, _⟩ := pcs_cover h (t := 0) (by decide) (by decide)
  intro e
  rw [e] at hp
  simp at hp
theorem most_at {rs : List Rp} (h : TR rs) : ∃ p ∈ pcs rs, cnt rs p.1 = most rs := by
  obtain ⟨h1, h2, h3⟩ := fold_max ((pcs rs).map fun p => cnt rs p.1) 0
  rcases h3 with h3 | h3
  · obtain ⟨p, hp⟩ := List.exists_mem_of_ne_nil _ (pcs_ne h)
    have := h1 (cnt rs p.1) (List.mem_map.mpr ⟨p, hp, rfl⟩)
    exact ⟨p, hp, by unfold most; omega⟩
  · obtain ⟨p, hp, e⟩ := List.mem_map.mp h3
    exact ⟨p, hp, e⟩
theorem most_ge {rs : List Rp} (h : TR rs) {t : Int} (t1 : 0 ≤ t) (t2 : t ≤ 9999) : cnt rs t ≤ most rs := by
  obtain ⟨p, hp, q1, q2⟩ := pcs_cover h t1 t2
  rw [pcs_cnt h hp q1 q2]
  exact (fold_max _ 0).1 _ (List.mem_map.mpr ⟨p, hp, rfl⟩)
theorem most_is {rs : List Rp} (h : TR rs) {m : Nat} (h1 : ∃ t, 0 ≤ t ∧ t ≤ 9999 ∧ cnt rs t = m) (h2 : ∀ t, 0 ≤ t → t ≤ 9999 → cnt rs t ≤ m) : most rs = m := by
  obtain ⟨p, hp, e⟩ := most_at h
  have := pcs_same h hp
  have a := h2 p.1 (by omega) (by omega)
  obtain ⟨t, t1, t2, rfl⟩ := h1
  have b := most_ge h t1 t2
  omega
theorem cnt_le (rs : List Rp) (t : Int) : cnt rs t ≤ rs.length := filter_len _ _
theorem most_le {rs : List Rp} (h : TR rs) : most rs ≤ rs.length := by
  obtain ⟨p, _, e⟩ := most_at h
  rw [← e]
  exact cnt_le _ _
theorem s_most_together (hk : 3 ≤ k) {rs : List Rp} (h : rs.length ≤ 30) (ht : TR rs) : phi (U X) k 27 [eRs rs] = ret (.int (most rs)) := at_def rfl (by omega) (by
  have z1 := s_pieces (X := X) (k := k - 1) (by omega) h
  have z2 := fun t => s_right_names (X := X) (k := k - 1) (by omega) rs t
  have e : ((pcs rs).map fun p => ((cnt rs p.1 : Nat) : Int)).max? = some (most rs : Int) := by
    refine max_is ?_ fun n hn => ?_
    · obtain ⟨p, hp, e⟩ := most_at ht
      exact List.mem_map.mpr ⟨p, hp, by rw [e]⟩
    · obtain ⟨p, hp, rfl⟩ := List.mem_map.mp hn
      have := (fold_max ((pcs rs).map fun p => cnt rs p.1) 0).1 _ (List.mem_map.mpr ⟨p, hp, rfl⟩)
      unfold most
      omega
  have e2 := b_max1I ((pcs rs).map fun p => ((cnt rs p.1 : Nat) : Int))
  rw [e, List.map_map] at e2
  simp at e2
  simp [f_most_together, b_most_together, z1, z2, e2])
theorem s_fewest_liars {rs : List Rp} (h : VR rs) (hk : 6 ≤ k) : phi (U X) k 28 [eRs rs] = ret (.int (rs.length - most rs)) := at_def rfl (by omega) (by
  have z1 := h.check (X := X) (k := k - 1) (by omega)
  have z2 := s_most_together (X := X) (k := k - 1) (by omega) (Nat.le_trans h.len (by decide)) h.tr
  simp [f_fewest_liars, b_fewest_liars, z1, z2])
theorem s_best_times {rs : List Rp} (h : VR rs) (hk : 6 ≤ k) : phi (U X) k 29 [eRs rs] = ret (eGs (withM rs (most rs))) := at_def rfl (by omega) (by
  have z1 := h.check (X := X) (k := k - 1) (by omega)
  have z2 := s_most_together (X := X) (k := k - 1) (by omega) (Nat.le_trans h.len (by decide)) h.tr
  have z3 := s_times_with (X := X) (k := k - 1) (by omega) (Nat.le_trans h.len (by decide)) (most rs)
  simp [f_best_times, b_best_times, z1, z2, z3])
end Lw
end
section
/-! what the laws draw -/
namespace Lw
open Py
variable {X : List Fd} {k : Nat}
theorem small_mod (x : Int) (m : Int) (h : 0 < m) (h2 : m ≤ 2147483647) : small (x % m) = true := by
  have h1 := Int.emod_nonneg x (by omega : m ≠ 0)
  have h2 := Int.emod_lt_of_pos x h
  unfold small
  simp
  omega
def pkLoop : Nat → Int → Int → Int
  | 0, r, _ => r
  | n + 1, r, a => if 0 < r ∧ 0 < a then pkLoop n (r / 840) (a - 1) else r
abbrev pkC : E := .and (.cmp .gt (.var 5) (.cst (.int 0))) (.cmp .gt (.var 6) (.cst (.int 0)))
theorem pk_whl (L : Lk) (s0 s1 s2 s3 s4 : Slot) : ∀ (n : Nat) (r a : Int), a < n → 0 < n → ∃ s6, whileS n (ev L pkC) (evSs L l0b__law_pick) [s0, s1, s2, s3, s4, .v (.int r), .v (.int a)] = nextS [s0, s1, s2, s3, s4, .v (.int (pkLoop n r a)), s6]
  | 0, r, a, h, h0 => absurd h0 (by decide)
  | n + 1, r, a, h, h0 => by
    by_cases h1 : 0 < r ∧ 0 < a
    · obtain ⟨s6, e⟩ := pk_whl L s0 s1 s2 s3 s4 n (r / 840) (a - 1) (by omega) (by omega)
      refine ⟨s6, ?_⟩
      have hb : evSs L l0b__law_pick [s0, s1, s2, s3, s4, .v (.int r), .v (.int a)] = nextS [s0, s1, s2, s3, s4, .v (.int (r / 840)), .v (.int (a - 1))] := by simp [l0b__law_pick]
      rw [whileS]
      simp [h1, hb, e, pkLoop]
    · refine ⟨.v (.int a), ?_⟩
      rw [whileS]
      have e : pkLoop (n + 1) r a = r := by rw [pkLoop, if_neg h1]
      rw [e]
      by_cases h2 : 0 < r
      · have h3 : ¬ 0 < a := fun z => h1 ⟨h2, z⟩
        simp [h2, h3]
      · simp [h2]
def pkCell (ns : List Int) (i : Int) : Int := if ns = [] then 0 else ns.getD (i % (ns.length : Int)).toNat 0
def pkMix (c i m : Int) : Int :=
  let d := (c * 31 + 6151 * (i + 1)) * 40692 % 2147483399
  (d * d + d / 31) % 2147483629 % m
def pkDen (ns : List Int) : Int := if 1 > (ns.length : Int) then 1 else (ns.length : Int)
def pkRest (ns : List Int) (i : Int) : Int := pkLoop 100000 (pkCell ns i / 1000000000000000000) (i / pkDen ns)
/-- the drawn number -/
def pick (ns : List Int) (i m : Int) : Int := if 0 < pkRest ns i then pkRest ns i % 840 % m else pkMix (pkCell ns i) i m
theorem pick_rng {ns : List Int} {i m : Int} (hm : 0 < m) : 0 ≤ pick ns i m ∧ pick ns i m < m := by
  unfold pick pkMix
  split
  · exact ⟨Int.emod_nonneg _ (by omega), Int.emod_lt_of_pos _ hm⟩
  · exact ⟨Int.emod_nonneg _ (by omega), Int.emod_lt_of_pos _ hm⟩
abbrev eScr (ns : List Int) : D := .scr (ns.map .int)
theorem s_pick (hk : 1 ≤ k) {ns : List Int} (hl : ns.length ≤ 63) {i m : Int} (h0 : 0 ≤ i) (h1 : i < 99999) (hm : 0 < m) : phi (U X) k 15 [eScr ns, .int i, .int m] = ret (.int (pick ns i m)) := at_def rfl (by omega) (by
  have hsc : eqD (.scr (ns.map .int)) (.lst []) = ns.isEmpty := by rw [eqD]; simp
  have hq : i / pkDen ns ≤ i := by
    apply Int.ediv_le_self
    exact h0
  have hq0 : 0 < pkDen ns := by unfold pkDen; split <;> omega
  have hq1 : pkDen ns < 18446744073709551616 := by unfold pkDen; split <;> omega
  have hmx : bltD .max2 [.int (ns.length : Int), .int 1] = some (.int (pkDen ns)) := by rw [b_max2]; rfl
  obtain ⟨s6, hw⟩ := pk_whl (Lk' X (k - 1)) (.v (eScr ns)) (.v (.int i)) (.v (.int m)) (.v (.int (pkCell ns i))) .none 100000 (pkCell ns i / 1000000000000000000) (i / pkDen ns) (by omega) (by decide)
  have hw2 : evS (Lk' X (k - 1)) l0__law_pick [.v (eScr ns), .v (.int i), .v (.int m), .v (.int (pkCell ns i)), .none, .v (.int (pkCell ns i / 1000000000000000000)), .v (.int (i / pkDen ns))] = nextS [.v (eScr ns), .v (.int i), .v (.int m), .v (.int (pkCell ns i)), .none, .v (.int (pkRest ns i)), s6] := by
    rw [l0__law_pick, evS_whl]
    exact hw
  have hp : binD .pow (.int 10) (.int 18) = some (.int 1000000000000000000) := by rw [binD]; simp [small]
  have sm1 : small 31 = true := by decide
  have sm2 : small 6151 = true := by decide
  have sm3 : small 40692 = true := by decide
  have sm4 : ∀ c : Int, small ((c * 31 + 6151 * (i + 1)) * 40692 % 2147483399) = true := fun c => small_mod _ _ (by decide) (by decide)
  have hc : evS (Lk' X (k - 1)) (.asg 3 (.ite (.cmp .ne (.var 0) (.lst .nil)) (.sub (.var 0) (.bin .mod (.var 1) (.blt .len (.cons (.var 0) .nil)))) (.cst (.int 0)))) [.v (eScr ns), .v (.int i), .v (.int m), .none, .none, .none, .none] = nextS [.v (eScr ns), .v (.int i), .v (.int m), .v (.int (pkCell ns i)), .none, .none, .none] := by
    cases ns with
    | nil => simp [hsc, pkCell]
    | cons a r =>
      have hlen : (0 : Int) < ((a :: r).length : Int) := by simp
      have e1 := Int.emod_nonneg i (show ((a :: r).length : Int) ≠ 0 by omega)
      have e2 := Int.emod_lt_of_pos i hlen
      have e3 : (i % ((a :: r).length : Int)).toNat < (a :: r).length := by omega
      have es : subD (.scr ((a :: r).map .int)) (.int (i % ((a :: r).length : Int))) = some (.int (pkCell (a :: r) i)) := by
        rw [subD]
        unfold ixN pkCell
        rw [List.length_map, if_pos e1, if_pos e2, if_neg (by simp)]
        simp only [Option.bind_some, List.getElem?_map, List.getD_eq_getElem?_getD]
        rw [List.getElem?_eq_getElem e3]
        rfl
      generalize hL : a :: r = L at *
      have hne : L.isEmpty = false := by rw [← hL]; rfl
      have hlenN : 0 < L.length := by omega
      simp [hsc, hne, hlenN, es]
  simp only [f__law_pick, b__law_pick, runF_eq, List.length_cons, List.length_nil]
  simp only [List.map_cons, List.map_nil, List.replicate, List.cons_append, List.nil_append, Nat.reduceAdd, Nat.reduceSub, if_true, evSs_cons, hc, seqS_next]
  simp [hp, hw2, hq0, hq1, hm, hmx, sm1, sm2, sm3, sm4, -b_max2]
  unfold pick pkMix
  split <;> simp)
end Lw
end
section
namespace Lw
open Py
variable {X : List Fd} {k : Nat}
/-! ### drawn reports -/
def lspan (j : Int) : Int := if j = 0 then 2 else if j = 1 then 9 else 18
def lhigh (ns : List Int) (at' : Int) : Int := pick ns at' 20 + pick ns (at' + 1) (lspan (pick ns (at' + 2) 3))
def m99 (x : Int) : Int := if 9999 < x then 9999 else x
def lrep (ns : List Int) (place : Int) (i : Nat) : Rp :=
  let at' := place + 1 + 4 * (i : Int)
  let low := pick ns at' 20
  let high := lhigh ns at'
  let kind := pick ns (at' + 3) 12
  if kind = 0 then ⟨[97 + i], 9965 + low, m99 (m99 (9965 + high))⟩
  else if kind = 1 then ⟨[97 + i], low, m99 (9960 + high)⟩
  else ⟨[97 + i], low, m99 high⟩
def lreps (ns : List Int) (place most : Int) : List Rp := (List.range (pick ns place (most + 1)).toNat).map (lrep ns place)
theorem small4 : small 4 = true := by decide
theorem sub3 {j : Int} (h0 : 0 ≤ j) (h1 : j < 3) : subD (.tup [.int 2, .int 9, .int 18]) (.int j) = some (.int (lspan j)) := by
  have : j = 0 ∨ j = 1 ∨ j = 2 := by omega
  rcases this with rfl | rfl | rfl <;> simp [ixN, lspan]
theorem sub_abc {i : Nat} (h : i < 10) : subD (.str [97, 98, 99, 100, 101, 102, 103, 104, 105, 106]) (.int i) = some (.str [97 + i]) := by
  have : i = 0 ∨ i = 1 ∨ i = 2 ∨ i = 3 ∨ i = 4 ∨ i = 5 ∨ i = 6 ∨ i = 7 ∨ i = 8 ∨ i = 9 := by omega
  rcases this with rfl | rfl | rfl | rfl | rfl | rfl | rfl | rfl | rfl | rfl <;> rfl
theorem lspan_rng (j : Int) : 2 ≤ lspan j ∧ lspan j ≤ 18 := by unfold lspan; split <;> (try split) <;> omega
theorem lhigh_rng (ns : List Int) (a : Int) : pick ns a 20 ≤ lhigh ns a ∧ lhigh ns a ≤ pick ns a 20 + 17 := by
  have h1 := lspan_rng (pick ns (a + 2) 3)
  have h2 := pick_rng (ns := ns) (i := a + 1) (m := lspan (pick ns (a + 2) 3)) (by omega)
  unfold lhigh
  omega
/-- a report as the laws draw them -/
structure Dn (i : Nat) (r : Rp) : Prop where
  nm : r.nm = [97 + i]
  lo0 : 0 ≤ r.lo
  le : r.lo ≤ r.hi
  hi : r.hi ≤ 9999
  glo : r.lo ≤ 19 ∨ 9965 ≤ r.lo
  ghi : r.hi ≤ 36 ∨ 9960 ≤ r.hi
theorem lrep_dn (ns : List Int) (place : Int) (i : Nat) : Dn i (lrep ns place i) := by
  have h1 := pick_rng (ns := ns) (i := place + 1 + 4 * (i : Int)) (m := 20) (by decide)
  have h2 := lhigh_rng ns (place + 1 + 4 * (i : Int))
  have m1 : ∀ x : Int, (m99 x = x ∧ x ≤ 9999) ∨ (m99 x = 9999 ∧ 9999 < x) := fun x => by unfold m99; split <;> omega
  have a1 := m1 (9965 + lhigh ns (place + 1 + 4 * (i : Int)))
  have a2 := m1 (m99 (9965 + lhigh ns (place + 1 + 4 * (i : Int))))
  have a3 := m1 (9960 + lhigh ns (place + 1 + 4 * (i : Int)))
  have a4 := m1 (lhigh ns (place + 1 + 4 * (i : Int)))
  unfold lrep
  simp only
  split
  · constructor <;> simp only <;> omega
  · split
    · constructor <;> simp only <;> omega
    · constructor <;> simp only <;> omega
theorem s_reports (hk : 2 ≤ k) {ns : List Int} (hl : ns.length ≤ 63) {place most : Int} (h0 : 0 ≤ place) (h1 : place < 9000) (h2 : 0 ≤ most) (h3 : most ≤ 10) : phi (U X) k 17 [eScr ns, .int place, .int most] = ret (eRs (lreps ns place most)) := at_def rfl (by omega) (by
  have hp : ∀ {i m : Int}, 0 ≤ i → i < 99999 → 0 < m → phi (U X) (k - 1) 15 [eScr ns, .int i, .int m] = ret (.int (pick ns i m)) := fun a b c => s_pick (by omega) hl a b c
  have hn := pick_rng (ns := ns) (i := place) (m := most + 1) (by omega)
  have hit : evi (Lk' X (k - 1)) (.rng1 (.call 15 (.cons (.var 0) (.cons (.var 1) (.cons (.bin .add (.var 2) (.cst (.int 1))) .nil))))) [.v (eScr ns), .v (.int place), .v (.int most), .o [], .none, .none, .none, .none, .none] = ret ((List.range (pick ns place (most + 1)).toNat).map fun i : Nat => D.int (0 + i)) := by
    have e := hp h0 (show place < 99999 by omega) (show 0 < most + 1 by omega)
    have hr : rngOk 0 (pick ns place (most + 1)) = true := by unfold rngOk; simp; omega
    simp [e, rngD, hr]
  obtain ⟨r', e1, s4, s5, s6, s7, s8, rfl⟩ := fo_inv (L := Lk' X (k - 1)) (s := l0__law_reports) rfl hit
    (fun pre r => ∃ s4 s5 s6 s7 s8, r = [.v (eScr ns), .v (.int place), .v (.int most), .o (pre.map fun i => eR (lrep ns place i)), s4, s5, s6, s7, s8]) ⟨_, _, _, _, _, rfl⟩ (by
      rintro pre i post r e ⟨s4, s5, s6, s7, s8, rfl⟩
      have hi : i < (pick ns place (most + 1)).toNat := by
        have : i ∈ List.range (pick ns place (most + 1)).toNat := by rw [e]; simp
        simpa using this
      have hlp : pre.length < 16777216 := by
        have := congrArg List.length e
        simp at this
        omega
      have hi2 : i < 10 := by omega
      have z1 := hp (i := place + 1 + 4 * (i : Int)) (m := 20) (by omega) (by omega) (by decide)
      have z2 := hp (i := place + 1 + 4 * (i : Int) + 2) (m := 3) (by omega) (by omega) (by decide)
      have z3 := hp (i := place + 1 + 4 * (i : Int) + 3) (m := 12) (by omega) (by omega) (by decide)
      have r2 := pick_rng (ns := ns) (i := place + 1 + 4 * (i : Int) + 2) (m := 3) (by decide)
      have r3 := lspan_rng (pick ns (place + 1 + 4 * (i : Int) + 2) 3)
      have z4 := hp (i := place + 1 + 4 * (i : Int) + 1) (m := lspan (pick ns (place + 1 + 4 * (i : Int) + 2) 3)) (by omega) (by omega) (by omega)
      have q1 := sub3 r2.1 r2.2
      have q2 := sub_abc hi2
      have r1 := pick_rng (ns := ns) (i := place + 1 + 4 * (i : Int)) (m := 20) (by decide)
      have r4 := lhigh_rng ns (place + 1 + 4 * (i : Int))
      by_cases k0 : pick ns (place + 1 + 4 * (i : Int) + 3) 12 = 0
      · have e : lrep ns place i = ⟨[97 + i], 9965 + pick ns (place + 1 + 4 * (i : Int)) 20, m99 (m99 (9965 + lhigh ns (place + 1 + 4 * (i : Int))))⟩ := by simp [lrep, k0]
        simp [l0b__law_reports, small4, z1, z2, z3, z4, q1, q2, hlp, k0, e, m99, lhigh]
        exact goes ⟨_, _, _, _, _, rfl⟩
      · by_cases k1 : pick ns (place + 1 + 4 * (i : Int) + 3) 12 = 1
        · have e : lrep ns place i = ⟨[97 + i], pick ns (place + 1 + 4 * (i : Int)) 20, m99 (9960 + lhigh ns (place + 1 + 4 * (i : Int)))⟩ := by simp [lrep, k1]
          simp [l0b__law_reports, small4, z1, z2, z3, z4, q1, q2, hlp, k1, e, m99, lhigh]
          exact goes ⟨_, _, _, _, _, rfl⟩
        · have e : lrep ns place i = ⟨[97 + i], pick ns (place + 1 + 4 * (i : Int)) 20, m99 (lhigh ns (place + 1 + 4 * (i : Int)))⟩ := by simp [lrep, k0, k1]
          simp [l0b__law_reports, small4, z1, z2, z3, z4, q1, q2, hlp, k0, k1, e, m99, lhigh]
          exact goes ⟨_, _, _, _, _, rfl⟩)
  simp [f__law_reports, b__law_reports, e1, lreps])
theorem lreps_len {ns : List Int} {place most : Int} (h : 0 ≤ most) : ((lreps ns place most).length : Int) ≤ most := by
  have := pick_rng (ns := ns) (i := place) (m := most + 1) (by omega)
  simp [lreps]
  omega
theorem lreps_at {ns : List Int} {place most : Int} {i : Nat} {r : Rp} (h : (lreps ns place most)[i]? = some r) : Dn i r := by
  unfold lreps at h
  rw [List.getElem?_map] at h
  obtain ⟨j, h1, rfl⟩ := Option.map_eq_some_iff.mp h
  rw [List.getElem?_range] at h1
  · cases h1
    exact lrep_dn ns place i
  · have := (List.getElem?_eq_some_iff.mp h1).1
    simpa using this
/-- reports as the laws draw them -/
structure DRs (rs : List Rp) : Prop where
  len : rs.length ≤ 10
  at_ : ∀ i r, rs[i]? = some r → Dn i r
theorem lreps_d {ns : List Int} {place most : Int} (h : 0 ≤ most) (h2 : most ≤ 10) : DRs (lreps ns place most) := ⟨by have := lreps_len (ns := ns) (place := place) h; omega, fun i r => lreps_at⟩
theorem DRs.mem {rs : List Rp} (h : DRs rs) {r : Rp} (hr : r ∈ rs) : ∃ i, i < 10 ∧ Dn i r := by
  obtain ⟨i, hi⟩ := List.getElem?_of_mem hr
  have := (List.getElem?_eq_some_iff.mp hi).1
  have := h.len
  exact ⟨i, by omega, h.at_ i r hi⟩
theorem nm_ok {i : Nat} (h : i < 10) : nmB [97 + i] = true := by
  have : i = 0 ∨ i = 1 ∨ i = 2 ∨ i = 3 ∨ i = 4 ∨ i = 5 ∨ i = 6 ∨ i = 7 ∨ i = 8 ∨ i = 9 := by omega
  rcases this with rfl | rfl | rfl | rfl | rfl | rfl | rfl | rfl | rfl | rfl <;> decide
theorem asc_of {ns : List Tx} (h : ns.Pairwise fun a b => txLt a b = true) : asc ns = true := by
  match ns, h with
  | [], _ => rfl
  | [_], _ => rfl
  | a :: b :: r, h =>
    obtain ⟨h1, h2⟩ := List.pairwise_cons.mp h
    have := asc_of h2
    simp only [asc, tl_cons, List.zip_cons_cons, List.all_cons, h1 b (by simp), Bool.true_and] at this ⊢
    exact this
theorem txLt_one {a b : Nat} : txLt [a] [b] = decide (a < b) := by
  simp only [txLt]
  by_cases h : a < b
  · simp [h]
  · by_cases h2 : b < a <;> simp [h, h2]
theorem DRs.asc {rs : List Rp} (h : DRs rs) : asc (rs.map (·.nm)) = true := by
  refine asc_of ?_
  rw [List.pairwise_map, List.pairwise_iff_getElem]
  intro i j hi hj hij
  have h1 := h.at_ i _ (List.getElem?_eq_getElem hi)
  have h2 := h.at_ j _ (List.getElem?_eq_getElem hj)
  rw [h1.nm, h2.nm, txLt_one]
  exact decide_eq_true (by omega)
theorem DRs.vr {rs : List Rp} (h : DRs rs) : VR rs := ⟨h.len, fun r hr => by
  obtain ⟨i, hi, d⟩ := h.mem hr
  have := d.lo0
  have := d.le
  have := d.hi
  simp only [repB, d.nm, nm_ok hi, Bool.true_and, Bool.and_eq_true, decide_eq_true_eq]
  omega, h.asc⟩
/-! ### the times that are looked at -/
def tms : List Int := (List.range 46).map (fun i : Nat => (i : Int)) ++ (List.range 50).map fun i : Nat => 9950 + (i : Int)
theorem s_times (hk : 1 ≤ k) : phi (U X) k 18 [] = ret (.lst (tms.map .int)) := at_def rfl (by omega) (funext fun w => rfl)
theorem s_right (hk : 1 ≤ k) {rs : List Rp} (h : rs.length ≤ 1000) (t : Int) : phi (U X) k 19 [eRs rs, .int t] = ret (eNs (rnames rs t)) := at_def rfl (by omega) (by
  obtain ⟨r', h1, s3, s4, s5, rfl⟩ := fo_inv (L := Lk' X (k - 1)) (s := l0__law_right) (xs := rs) (e := eR) (r0 := [.v (eRs rs), .v (.int t), .o [], .none, .none, .none]) rfl (by simp)
    (fun pre r => ∃ s3 s4 s5, r = [.v (eRs rs), .v (.int t), .o ((rnames pre t).map .str), s3, s4, s5]) ⟨_, _, _, rfl⟩ (by
      rintro pre p post r e ⟨s3, s4, s5, rfl⟩
      have hl : cnt pre t < 16777216 := by
        have h1 := congrArg List.length e
        have h2 : cnt pre t ≤ pre.length := filter_len _ _
        simp at h1
        omega
      by_cases c1 : p.lo ≤ t
      · by_cases c2 : t ≤ p.hi
        · have e2 : rnames (pre ++ [p]) t = rnames pre t ++ [p.nm] := by simp [rnames, rightB, c1, c2]
          simp [l0b__law_right, c1, c2, hl, e2]
          exact goes ⟨_, _, _, rfl⟩
        · have e2 : rnames (pre ++ [p]) t = rnames pre t := by simp [rnames, rightB, c2]
          simp [l0b__law_right, c1, c2, e2]
          exact goes ⟨_, _, _, rfl⟩
      · have e2 : rnames (pre ++ [p]) t = rnames pre t := by simp [rnames, rightB, c1]
        simp [l0b__law_right, c1, e2]
        exact goes ⟨_, _, _, rfl⟩)
  simp [f__law_right, b__law_right, h1])
theorem s_lhull (hk : 1 ≤ k) (ps : List Rg) : phi (U X) k 31 [eGs ps] = ret (hullD ps) := at_def rfl (by omega) (by
  rcases ps with _ | ⟨p, qs⟩
  · simp [f__law_hull, b__law_hull, hullD]
  · rcases snoc_cases (p :: qs) with h | ⟨ys, b, h⟩
    · simp at h
    · have e1 : subD (.lst ((p :: qs).map eG)) (.int (-1)) = some (eG b) := by rw [h, List.map_append]; exact sub_last _ _
      have e2 : (p :: qs).getLast? = some b := by rw [h]; simp
      simp only [List.map_cons] at e1
      simp [f__law_hull, b__law_hull, hullD, e1, e2, ixN])
end Lw
end
section
namespace Lw
open Py
variable {X : List Fd} {k : Nat}
@[simp] theorem isC_nn (n : Bool) : isCD n .non .non = some (.bl (!n)) := by rw [isCD]
@[simp] theorem isC_ni (n : Bool) (i : Int) : isCD n .non (.int i) = some (.bl n) := by rw [isCD] <;> simp
@[simp] theorem isC_nt (n : Bool) (i : List D) : isCD n .non (.tup i) = some (.bl n) := by rw [isCD] <;> simp
@[simp] theorem isC_nl (n : Bool) (i : List D) : isCD n .non (.lst i) = some (.bl n) := by rw [isCD] <;> simp
@[simp] theorem isC_ns (n : Bool) (i : Tx) : isCD n .non (.str i) = some (.bl n) := by rw [isCD] <;> simp
@[simp] theorem isC_nb (n : Bool) (i : Bool) : isCD n .non (.bl i) = some (.bl n) := by rw [isCD] <;> simp
@[simp] theorem isC_bb (n b c : Bool) : isCD n (.bl b) (.bl c) = some (.bl (if n then !(b == c) else b == c)) := by rw [isCD]
theorem sub_map {α : Type} {e : α → D} {xs : List α} {i : Nat} {x : α} (h : xs[i]? = some x) : subD (.lst (xs.map e)) (.int (i : Int)) = some (e x) := by
  have hi := (List.getElem?_eq_some_iff.mp h).1
  have e1 : ixN (xs.map e).length (i : Int) = some i := by
    unfold ixN
    rw [if_pos (by omega), if_pos (by simpa using hi)]
    simp
  rw [sub_l, e1]
  simp [h]
theorem rngD_a {i j : Int} (h : rngOk i j = true) : rngD i j = some (intsF i (j - i).toNat) := by
  unfold rngD
  rw [if_pos h]
theorem rngD_eq {i j : Int} (h : rngOk i j = true) : rngD i j = some ((List.range (j - i).toNat).map fun m : Nat => D.int (i + m)) := (rngD_a h).trans (congrArg some (ints_map i (j - i).toNat))
theorem rngOk0 {n : Nat} (h : n ≤ 1000000) : rngOk 0 (n : Int) = true := by unfold rngOk; simp; omega
theorem rng_n (n : Nat) : ((List.range ((n : Int) - 0).toNat).map fun m : Nat => D.int (0 + m)) = (List.range n).map fun i : Nat => D.int (i : Int) := by
  have e1 : ((n : Int) - 0).toNat = n := by omega
  rw [e1]
  exact List.map_congr_left fun i _ => by rw [Int.zero_add]
theorem rngD0 {n : Nat} (h : n ≤ 1000000) : rngD 0 (n : Int) = some ((List.range n).map fun i : Nat => D.int (i : Int)) := (rngD_eq (rngOk0 h)).trans (congrArg some (rng_n n))
def runs : Option Int → List (Int × Bool) → List Rg
  | _, [] => []
  | b, x :: r => match (if x.2 && b.isNone then some x.1 else b) with
    | some s => if r.isEmpty || !(r.head?.map (·.2)).getD false then (s, x.1) :: runs none r else runs (some s) r
    | none => runs none r
def encO : Option Int → D
  | none => .non
  | some i => .int i
theorem range_at {n i : Nat} {p q : List Nat} (h : List.range n = p ++ i :: q) : i = p.length ∧ i < n := by
  have h1 : (List.range n)[p.length]? = some i := by rw [h]; simp
  have h2 : p.length < n := by
    have := (List.getElem?_eq_some_iff.mp h1).1
    simpa using this
  rw [List.getElem?_range h2] at h1
  cases h1
  exact ⟨rfl, h2⟩
def lrg (ts : List Int) (gs : List Bool) : List Rg := runs none (ts.zip gs)
def rgS1 : S := .ifs (.and (.sub (.var 1) (.var 2)) (.isC false (.var 4) .non)) (.cons (.asg 4 (.sub (.var 0) (.var 2))) .nil) .nil
def rgS2 : S := .ifs (.and (.isC true (.var 4) .non) (.or (.cmp .eq (.bin .add (.var 2) (.cst (.int 1))) (.blt .len (.cons (.var 0) .nil))) (.not (.sub (.var 1) (.bin .add (.var 2) (.cst (.int 1))))))) (.cons (.app 3 (.tup (.cons (.var 4) (.cons (.sub (.var 0) (.var 2)) .nil)))) (.cons (.asg 4 (.cst .non)) .nil)) .nil
theorem rg_eq : l0b__law_ranges = .cons rgS1 (.cons rgS2 .nil) := rfl
section
variable (L : Lk) {ts : List Int} {gs : List Bool} {j : Nat} {F : List Rg} {t : Int} {g : Bool} (s : Int)
theorem rg1_some (hg : gs[j]? = some g) : evS L rgS1 [.v (.lst (ts.map .int)), .v (.lst (gs.map .bl)), .v (.int j), .o (F.map eG), .v (.int s)] = nextS [.v (.lst (ts.map .int)), .v (.lst (gs.map .bl)), .v (.int j), .o (F.map eG), .v (.int s)] := by
  have z2 := sub_map (e := D.bl) hg
  cases g <;> simp [rgS1, z2]
theorem rg1_t (ht : ts[j]? = some t) (hg : gs[j]? = some true) : evS L rgS1 [.v (.lst (ts.map .int)), .v (.lst (gs.map .bl)), .v (.int j), .o (F.map eG), .v .non] = nextS [.v (.lst (ts.map .int)), .v (.lst (gs.map .bl)), .v (.int j), .o (F.map eG), .v (.int t)] := by
  have z1 := sub_map (e := D.int) ht
  have z2 := sub_map (e := D.bl) hg
  simp [rgS1, z1, z2]
theorem rg1_f (hg : gs[j]? = some false) : evS L rgS1 [.v (.lst (ts.map .int)), .v (.lst (gs.map .bl)), .v (.int j), .o (F.map eG), .v .non] = nextS [.v (.lst (ts.map .int)), .v (.lst (gs.map .bl)), .v (.int j), .o (F.map eG), .v .non] := by
  have z2 := sub_map (e := D.bl) hg
  simp [rgS1, z2]
theorem rg2_n : evS L rgS2 [.v (.lst (ts.map .int)), .v (.lst (gs.map .bl)), .v (.int j), .o (F.map eG), .v .non] = nextS [.v (.lst (ts.map .int)), .v (.lst (gs.map .bl)), .v (.int j), .o (F.map eG), .v .non] := by
  simp [rgS2]
theorem rg2_end (ht : ts[j]? = some t) (hl : F.length < 100000) (c : (j : Int) + 1 = ts.length) : evS L rgS2 [.v (.lst (ts.map .int)), .v (.lst (gs.map .bl)), .v (.int j), .o (F.map eG), .v (.int s)] = nextS [.v (.lst (ts.map .int)), .v (.lst (gs.map .bl)), .v (.int j), .o ((F ++ [(s, t)]).map eG), .v .non] := by
  have z1 := sub_map (e := D.int) ht
  have hFl : F.length < 16777216 := by omega
  simp [rgS2, c, z1, hFl]
theorem rg2_t (c : ¬ ((j : Int) + 1 = ts.length)) (hg : gs[j + 1]? = some true) : evS L rgS2 [.v (.lst (ts.map .int)), .v (.lst (gs.map .bl)), .v (.int j), .o (F.map eG), .v (.int s)] = nextS [.v (.lst (ts.map .int)), .v (.lst (gs.map .bl)), .v (.int j), .o (F.map eG), .v (.int s)] := by
  have z3 := sub_map (e := D.bl) hg
  have ec : ((j + 1 : Nat) : Int) = (j : Int) + 1 := by omega
  rw [ec] at z3
  simp [rgS2, c, z3]
theorem rg2_f (ht : ts[j]? = some t) (hl : F.length < 100000) (c : ¬ ((j : Int) + 1 = ts.length)) (hg : gs[j + 1]? = some false) : evS L rgS2 [.v (.lst (ts.map .int)), .v (.lst (gs.map .bl)), .v (.int j), .o (F.map eG), .v (.int s)] = nextS [.v (.lst (ts.map .int)), .v (.lst (gs.map .bl)), .v (.int j), .o ((F ++ [(s, t)]).map eG), .v .non] := by
  have z1 := sub_map (e := D.int) ht
  have z3 := sub_map (e := D.bl) hg
  have ec : ((j + 1 : Nat) : Int) = (j : Int) + 1 := by omega
  have hFl : F.length < 16777216 := by omega
  rw [ec] at z3
  simp [rgS2, c, z1, z3, hFl]
end
theorem drop_zip {ts : List Int} {gs : List Bool} {j : Nat} {t : Int} {g : Bool} (ht : ts[j]? = some t) (hg : gs[j]? = some g) : (ts.zip gs).drop j = (t, g) :: (ts.zip gs).drop (j + 1) := by
  have : (ts.zip gs)[j]? = some (t, g) := by simp [List.getElem?_zip_eq_some, ht, hg]
  obtain ⟨h1, h2⟩ := List.getElem?_eq_some_iff.mp this
  rw [List.drop_eq_getElem_cons h1, h2]
theorem at_lt {α : Type} {xs : List α} {j : Nat} (h : j < xs.length) : ∃ x, xs[j]? = some x := ⟨_, List.getElem?_eq_getElem h⟩
abbrev rgE (ts : List Int) (gs : List Bool) (s2 : Slot) (F : List Rg) (b : Option Int) : Env := [.v (.lst (ts.map .int)), .v (.lst (gs.map .bl)), s2, .o (F.map eG), .v (encO b)]
/-- a turn: where the runs go on -/
theorem rg_turn (L : Lk) {ts : List Int} {gs : List Bool} {j : Nat} {F : List Rg} {b : Option Int} (he : gs.length = ts.length) (hj : j < ts.length) (hl : F.length < 100000) : ∃ F' b', evSs L l0b__law_ranges (rgE ts gs (.v (.int j)) F b) = nextS (rgE ts gs (.v (.int j)) F' b') ∧ F'.length ≤ F.length + 1 ∧ F' ++ runs b' ((ts.zip gs).drop (j + 1)) = F ++ runs b ((ts.zip gs).drop j) := by
  obtain ⟨t, ht⟩ := at_lt hj
  obtain ⟨g, hg⟩ := at_lt (xs := gs) (j := j) (by omega)
  rw [rg_eq, drop_zip ht hg]
  have last : ∀ s : Int, ∃ F' b', evSs L (.cons rgS2 .nil) [.v (.lst (ts.map .int)), .v (.lst (gs.map .bl)), .v (.int j), .o (F.map eG), .v (.int s)] = nextS (rgE ts gs (.v (.int j)) F' b') ∧ F'.length ≤ F.length + 1 ∧ F' ++ runs b' ((ts.zip gs).drop (j + 1)) = F ++ (if ((ts.zip gs).drop (j + 1)).isEmpty || !(((ts.zip gs).drop (j + 1)).head?.map (·.2)).getD false then (s, t) :: runs none ((ts.zip gs).drop (j + 1)) else runs (some s) ((ts.zip gs).drop (j + 1))) := fun s => by
    by_cases hn : j + 1 = ts.length
    · have e0 : (ts.zip gs).drop (j + 1) = [] := by rw [List.drop_eq_nil_iff, List.length_zip]; omega
      refine ⟨F ++ [(s, t)], none, ?_, by simp, by simp [e0]⟩
      rw [evSs_cons, rg2_end L s ht hl (by omega), seqS_next, evSs_nil] <;> rfl
    · obtain ⟨g2, hg2⟩ := at_lt (xs := gs) (j := j + 1) (by omega)
      obtain ⟨t2, ht2⟩ := at_lt (xs := ts) (j := j + 1) (by omega)
      rw [drop_zip ht2 hg2]
      cases g2 with
      | true =>
        refine ⟨F, some s, ?_, by omega, by simp⟩
        rw [evSs_cons, rg2_t L s (by omega) hg2, seqS_next, evSs_nil] <;> rfl
      | false =>
        refine ⟨F ++ [(s, t)], none, ?_, by simp, by simp⟩
        rw [evSs_cons, rg2_f L s ht hl (by omega) hg2, seqS_next, evSs_nil] <;> rfl
  cases b with
  | some s =>
    obtain ⟨F', b', e, h1, h2⟩ := last s
    refine ⟨F', b', ?_, h1, by rw [h2]; simp [runs]⟩
    rw [evSs_cons, show evS L rgS1 (rgE ts gs (.v (.int j)) F (some s)) = _ from rg1_some L s hg, seqS_next, e]
  | none =>
    cases g with
    | true =>
      obtain ⟨F', b', e, h1, h2⟩ := last t
      refine ⟨F', b', ?_, h1, by rw [h2]; simp [runs]⟩
      rw [evSs_cons, show evS L rgS1 (rgE ts gs (.v (.int j)) F none) = _ from rg1_t L ht hg, seqS_next, e]
    | false =>
      refine ⟨F, none, ?_, by omega, by simp [runs]⟩
      rw [evSs_cons, show evS L rgS1 (rgE ts gs (.v (.int j)) F none) = _ from rg1_f L hg, seqS_next, evSs_cons, rg2_n, seqS_next, evSs_nil] <;> rfl
theorem s_ranges (hk : 1 ≤ k) {ts : List Int} {gs : List Bool} (hl : ts.length ≤ 1000) (he : gs.length = ts.length) : phi (U X) k 30 [.lst (ts.map .int), .lst (gs.map .bl)] = ret (eGs (lrg ts gs)) := at_def rfl (by omega) (by
  have hr := rngD0 (n := ts.length) (by omega)
  obtain ⟨r', h1, F, b, s2, rfl, hF, hE⟩ := fo_invJ (L := Lk' X (k - 1)) (s := l0__law_ranges) (xs := List.range ts.length) (e := fun i : Nat => D.int (i : Int)) (r0 := [.v (.lst (ts.map .int)), .v (.lst (gs.map .bl)), .none, .o [], .v .non]) rfl (by simp -implicitDefEqProofs [hr])
    (fun pre r => ∃ F b s2, r = rgE ts gs s2 F b ∧ F.length ≤ pre.length ∧ F ++ runs b ((ts.zip gs).drop pre.length) = lrg ts gs) ⟨[], none, .none, rfl, by simp, by simp [lrg]⟩ (by
      rintro pre i post r e ⟨F, b, s2, rfl, hF, hE⟩ J hJ
      obtain ⟨rfl, hi⟩ := range_at e
      obtain ⟨F', b', e1, e2, e3⟩ := rg_turn (Lk' X (k - 1)) (F := F) (b := b) he hi (by omega)
      have hlen : (pre ++ [pre.length]).length = pre.length + 1 := by simp
      rw [bindT_nm, lif_some, bndE_ret]
      show Goes (evSs (Lk' X (k - 1)) l0b__law_ranges (rgE ts gs (.v (.int pre.length)) F b)) J
      rw [e1]
      exact goes (hJ _ ⟨F', b', _, rfl, by rw [hlen]; omega, by rw [hlen, e3, hE]⟩))
  have hz : (ts.zip gs).drop ts.length = [] := by rw [List.drop_eq_nil_iff, List.length_zip]; omega
  rw [List.length_range, hz] at hE
  simp only [runs, List.append_nil] at hE
  subst hE
  simp -implicitDefEqProofs [f__law_ranges, b__law_ranges, h1])
end Lw
end
section
/-! ranges among the looked-at times -/
namespace Lw
open Py
variable {X : List Fd} {k : Nat}
def Smp (P : Int → Bool) : List (Int × Bool) → Prop
  | [] => False
  | [x] => x.1 = 9999 ∧ x.2 = P x.1
  | x :: y :: r => x.2 = P x.1 ∧ x.1 < y.1 ∧ (y.1 = x.1 + 1 ∨ ∀ u, x.1 ≤ u → u ≤ y.1 → P u = P x.1) ∧ Smp P (y :: r)
theorem Smp.hd {P : Int → Bool} {x : Int × Bool} {r : List (Int × Bool)} (h : Smp P (x :: r)) : x.2 = P x.1 := by
  cases r with
  | nil => exact h.2
  | cons y r => exact h.1
theorem Smp.le {P : Int → Bool} : ∀ {r : List (Int × Bool)} {x : Int × Bool}, Smp P (x :: r) → x.1 ≤ 9999
  | [], x, h => by have := h.1; omega
  | y :: r, x, h => by
    have h1 := h.2.1
    have h2 := Smp.le h.2.2.2
    omega
theorem runs_none_f {x : Int × Bool} {r : List (Int × Bool)} (h : x.2 = false) : runs none (x :: r) = runs none r := by simp [runs, h]
theorem runs_none_t {x : Int × Bool} {r : List (Int × Bool)} (h : x.2 = true) : runs none (x :: r) = runs (some x.1) (x :: r) := by simp [runs, h]
theorem runs_some1 (s : Int) (x : Int × Bool) : runs (some s) [x] = [(s, x.1)] := by simp [runs]
theorem runs_some_t {s : Int} {x y : Int × Bool} {r : List (Int × Bool)} (h : y.2 = true) : runs (some s) (x :: y :: r) = runs (some s) (y :: r) := by
  rw [runs]
  simp [h]
theorem runs_some_f {s : Int} {x y : Int × Bool} {r : List (Int × Bool)} (h : y.2 = false) : runs (some s) (x :: y :: r) = (s, x.1) :: runs none (y :: r) := by
  rw [runs]
  simp [h]
theorem runs_spec (P : Int → Bool) : ∀ (r : List (Int × Bool)) (x : Int × Bool), Smp P (x :: r) →
    (Neat (runs none (x :: r)) ∧ ∀ u, inR (runs none (x :: r)) u ↔ x.1 ≤ u ∧ u ≤ 9999 ∧ P u = true) ∧
    (x.2 = true → ∀ s, s ≤ x.1 → Neat (runs (some s) (x :: r)) ∧ (∀ u, inR (runs (some s) (x :: r)) u ↔ (s ≤ u ∧ u ≤ x.1) ∨ (x.1 ≤ u ∧ u ≤ 9999 ∧ P u = true)))
  | [], x, h => by
    obtain ⟨h1, h2⟩ := h
    have two : x.2 = true → ∀ s, s ≤ x.1 → Neat (runs (some s) [x]) ∧ (∀ u, inR (runs (some s) [x]) u ↔ (s ≤ u ∧ u ≤ x.1) ∨ (x.1 ≤ u ∧ u ≤ 9999 ∧ P u = true)) := fun ht s hs => by
      rw [runs_some1]
      refine ⟨⟨List.pairwise_singleton _ _, by simp [hs]⟩, fun u => ?_⟩
      rw [inR_cons]
      simp only [inR_nil, or_false]
      constructor
      · intro q; exact .inl q
      · rintro (q | q)
        · exact q
        · omega
    refine ⟨?_, two⟩
    cases hx : x.2 with
    | true =>
      obtain ⟨a, b⟩ := two hx x.1 (Int.le_refl _)
      rw [runs_none_t hx]
      refine ⟨a, fun u => (b u).trans ?_⟩
      have hp : P x.1 = true := by rw [← h2, hx]
      constructor
      · rintro (q | q)
        · have : u = x.1 := by omega
          subst this
          exact ⟨by omega, by omega, hp⟩
        · exact q
      · intro q; exact .inr q
    | false =>
      rw [runs_none_f hx]
      refine ⟨Neat.nil, fun u => ?_⟩
      simp only [runs, inR_nil, false_iff]
      rintro ⟨q1, q2, q3⟩
      have : u = x.1 := by omega
      subst this
      rw [← h2, hx] at q3
      cases q3
  | y :: r, x, h => by
    obtain ⟨h1, h2, h3, h4⟩ := h
    obtain ⟨⟨i1, i2⟩, i3⟩ := runs_spec P r y h4
    have hy := h4.hd
    have hle := h4.le
    have two : x.2 = true → ∀ s, s ≤ x.1 → Neat (runs (some s) (x :: y :: r)) ∧ (∀ u, inR (runs (some s) (x :: y :: r)) u ↔ (s ≤ u ∧ u ≤ x.1) ∨ (x.1 ≤ u ∧ u ≤ 9999 ∧ P u = true)) := fun ht s hs => by
      have px : P x.1 = true := by rw [← h1, ht]
      cases hy2 : y.2 with
      | true =>
        obtain ⟨a, b⟩ := i3 hy2 s (by omega)
        have py : P y.1 = true := by rw [← hy, hy2]
        rw [runs_some_t hy2]
        refine ⟨a, fun u => (b u).trans ?_⟩
        constructor
        · rintro (q | q)
          · by_cases q2 : u ≤ x.1
            · exact .inl ⟨q.1, q2⟩
            · right
              refine ⟨by omega, by omega, ?_⟩
              rcases h3 with h3 | h3
              · have : u = y.1 := by omega
                rw [this, py]
              · rw [h3 u (by omega) q.2, px]
          · exact .inr ⟨by omega, q.2⟩
        · rintro (q | q)
          · exact .inl ⟨q.1, by omega⟩
          · by_cases q2 : u ≤ y.1
            · exact .inl ⟨by omega, q2⟩
            · exact .inr ⟨by omega, q.2⟩
      | false =>
        have py : P y.1 = false := by rw [← hy, hy2]
        have adj : y.1 = x.1 + 1 := by
          rcases h3 with h3 | h3
          · exact h3
          · have := h3 y.1 (by omega) (Int.le_refl _)
            rw [px, py] at this
            cases this
        rw [runs_some_f hy2]
        refine ⟨⟨List.pairwise_cons.mpr ⟨fun p hp => ?_, i1.gap⟩, fun p hp => ?_⟩, fun u => ?_⟩
        · obtain ⟨q1, q2, q3⟩ := (i2 p.1).mp ⟨p, hp, Int.le_refl _, i1.ne p hp⟩
          have : p.1 ≠ y.1 := fun e => by rw [e, py] at q3; cases q3
          show x.1 + 1 < p.1
          omega
        · rcases List.mem_cons.mp hp with rfl | hp
          · exact hs
          · exact i1.ne p hp
        · rw [inR_cons, i2]
          constructor
          · rintro (q | q)
            · exact .inl q
            · exact .inr ⟨by omega, q.2⟩
          · rintro (q | q)
            · exact .inl q
            · by_cases q2 : u ≤ x.1
              · exact .inl ⟨by simp only; omega, q2⟩
              · exact .inr ⟨by omega, q.2⟩
    refine ⟨?_, two⟩
    cases hx : x.2 with
    | true =>
      obtain ⟨a, b⟩ := two hx x.1 (Int.le_refl _)
      rw [runs_none_t hx]
      refine ⟨a, fun u => (b u).trans ?_⟩
      have hp : P x.1 = true := by rw [← h1, hx]
      constructor
      · rintro (q | q)
        · have : u = x.1 := by omega
          subst this
          exact ⟨by omega, by omega, hp⟩
        · exact q
      · intro q; exact .inr q
    | false =>
      rw [runs_none_f hx]
      refine ⟨i1, fun u => (i2 u).trans ?_⟩
      have px : P x.1 = false := by rw [← h1, hx]
      constructor
      · intro q; exact ⟨by omega, q.2⟩
      · rintro ⟨q1, q2, q3⟩
        refine ⟨?_, q2, q3⟩
        apply Int.not_lt.mp
        intro hlt
        rcases h3 with h3 | h3
        · have : u = x.1 := by omega
          rw [this, px] at q3
          cases q3
        · rw [h3 u q1 (by omega), px] at q3
          cases q3
def adj : List Int → Bool
  | [] => false
  | [t] => t == 9999
  | t :: u :: r => (u == t + 1 || (t == 45 && u == 9950)) && adj (u :: r)
theorem smp_of {P : Int → Bool} (hP : ∀ u, 45 ≤ u → u ≤ 9950 → P u = P 45) : ∀ ts : List Int, adj ts = true → Smp P (ts.map fun t => (t, P t))
  | [], h => by simp [adj] at h
  | [t], h => by
    simp only [adj, beq_iff_eq] at h
    exact ⟨h, rfl⟩
  | t :: u :: r, h => by
    simp only [adj, Bool.and_eq_true, Bool.or_eq_true, beq_iff_eq] at h
    refine ⟨rfl, ?_, ?_, smp_of hP (u :: r) h.2⟩
    · rcases h.1 with h | h <;> simp only <;> omega
    · rcases h.1 with h | ⟨h1, h2⟩
      · exact .inl h
      · right
        subst h1 h2
        exact fun v a b => hP v a b
theorem tms_adj : adj tms = true := by decide +kernel
theorem zip_map_self {α β : Type} (f : α → β) : ∀ xs : List α, xs.zip (xs.map f) = xs.map fun x => (x, f x)
  | [] => rfl
  | x :: xs => by rw [List.map_cons, List.zip_cons_cons, zip_map_self f xs]; rfl
theorem lrg_spec {P : Int → Bool} (hP : ∀ u, 45 ≤ u → u ≤ 9950 → P u = P 45) : Neat (lrg tms (tms.map P)) ∧ ∀ u, inR (lrg tms (tms.map P)) u ↔ 0 ≤ u ∧ u ≤ 9999 ∧ P u = true := by
  unfold lrg
  rw [zip_map_self]
  exact (runs_spec P _ (0, P 0) (smp_of hP tms tms_adj)).1
theorem Dn.const {i : Nat} {r : Rp} (h : Dn i r) {u : Int} (h1 : 45 ≤ u) (h2 : u ≤ 9950) : rightB u r = rightB 45 r := by
  have a := h.glo
  have b := h.ghi
  unfold rightB
  have e1 : decide (r.lo ≤ u) = decide (r.lo ≤ 45) := by
    by_cases q : r.lo ≤ 45
    · rw [decide_eq_true q, decide_eq_true (by omega)]
    · rw [decide_eq_false q, decide_eq_false (by omega)]
  have e2 : decide (u ≤ r.hi) = decide (45 ≤ r.hi) := by
    by_cases q : 45 ≤ r.hi
    · rw [decide_eq_true q, decide_eq_true (by omega)]
    · rw [decide_eq_false q, decide_eq_false (by omega)]
  rw [e1, e2]
theorem DRs.const {rs : List Rp} (h : DRs rs) {u : Int} (h1 : 45 ≤ u) (h2 : u ≤ 9950) : rs.filter (rightB u) = rs.filter (rightB 45) := List.filter_congr fun r hr => by
  obtain ⟨i, _, d⟩ := h.mem hr
  exact d.const h1 h2
/-- time by time -/
def looked (rs : List Rp) (m : Int) : List Rg := lrg tms (tms.map fun t => decide (m ≤ (cnt rs t : Int)))
theorem looked_eq {rs : List Rp} (ht : TR rs) (hc : ∀ u, 45 ≤ u → u ≤ 9950 → cnt rs u = cnt rs 45) (m : Int) : withM rs m = looked rs m := by
  obtain ⟨a1, a2⟩ := withM_spec ht m
  obtain ⟨b1, b2⟩ := lrg_spec (P := fun t => decide (m ≤ (cnt rs t : Int))) (fun u h1 h2 => by rw [hc u h1 h2])
  exact neat_uniq a1 b1 fun t => by rw [a2]; refine Iff.trans ?_ (b2 t).symm; simp
theorem DRs.looked {rs : List Rp} (h : DRs rs) (m : Int) : withM rs m = looked rs m := looked_eq h.vr.tr (fun u h1 h2 => by unfold cnt; rw [h.const h1 h2]) m
theorem mem_tms {t : Int} : t ∈ tms ↔ (0 ≤ t ∧ t ≤ 45) ∨ (9950 ≤ t ∧ t ≤ 9999) := by
  unfold tms
  simp only [List.mem_append, List.mem_map, List.mem_range]
  constructor
  · rintro (⟨i, h, rfl⟩ | ⟨i, h, rfl⟩) <;> omega
  · rintro (h | h)
    · exact .inl ⟨t.toNat, by omega, by omega⟩
    · exact .inr ⟨(t - 9950).toNat, by omega, by omega⟩
/-- whatever time: one of the looked-at ones is alike -/
theorem like_tms {β : Type} {f : Int → β} (hc : ∀ u, 45 ≤ u → u ≤ 9950 → f u = f 45) {t : Int} (h0 : 0 ≤ t) (h1 : t ≤ 9999) : ∃ u ∈ tms, f u = f t := by
  by_cases q : t ∈ tms
  · exact ⟨t, q, rfl⟩
  · have : ¬ ((0 ≤ t ∧ t ≤ 45) ∨ (9950 ≤ t ∧ t ≤ 9999)) := fun z => q (mem_tms.mpr z)
    exact ⟨45, mem_tms.mpr (by omega), (hc t (by omega) (by omega)).symm⟩
theorem most_looked {rs : List Rp} (ht : TR rs) (hc : ∀ u, 45 ≤ u → u ≤ 9950 → cnt rs u = cnt rs 45) : (tms.map fun t => (cnt rs t : Int)).max? = some (most rs : Int) := by
  refine max_is ?_ fun n hn => ?_
  · obtain ⟨p, hp, e⟩ := most_at ht
    have := pcs_same ht hp
    obtain ⟨u, hu, e2⟩ := like_tms (f := cnt rs) hc (t := p.1) (by omega) (by omega)
    exact List.mem_map.mpr ⟨u, hu, by rw [e2, e]⟩
  · obtain ⟨t, h, rfl⟩ := List.mem_map.mp hn
    have h := mem_tms.mp h
    have := most_ge ht (t := t) (by omega) (by omega)
    omega
end Lw
end
section
/-! what liars can do; reports that are right at a common time -/
namespace Lw
open Py
variable {X : List Fd} {k : Nat}
/-- all are right at T -/
structure AllR (rs : List Rp) (T : Int) : Prop where
  t0 : 0 ≤ T
  t1 : T ≤ 9999
  all : ∀ r ∈ rs, rightB T r = true
theorem AllR.cnt {rs : List Rp} {T : Int} (h : AllR rs T) : cnt rs T = rs.length := by
  unfold Lw.cnt
  rw [List.filter_eq_self.mpr h.all]
theorem AllR.mem {rs : List Rp} {T : Int} (h : AllR rs T) (ht : TR rs) {m : Int} (hm : m ≤ rs.length) : inR (withM rs m) T := ((withM_spec ht m).2 T).mpr ⟨h.t0, h.t1, by rw [h.cnt]; exact hm⟩
theorem ne_of_inR {ps : List Rg} {t : Int} (h : inR ps t) : ps ≠ [] := fun e => by rw [e] at h; exact inR_nil _ h
def hullP (ps : List Rg) : Rg := ((ps.head?.getD (0, 0)).1, (ps.getLast?.getD (0, 0)).2)
theorem hull_ne {ps : List Rg} (h : ps ≠ []) : hullD ps = eG (hullP ps) := by
  cases ps with
  | nil => exact absurd rfl h
  | cons p qs =>
    rcases snoc_cases (p :: qs) with e | ⟨ys, b, e⟩
    · simp at e
    · unfold hullD hullP
      rw [e, List.getLast?_concat]
      cases ys with
      | nil => simp
      | cons y ys => simp
/-- the hull of a set of times -/
theorem hull_spec {ps : List Rg} (n : Neat ps) (h : ps ≠ []) : inR ps (hullP ps).1 ∧ inR ps (hullP ps).2 ∧ ∀ t, inR ps t → (hullP ps).1 ≤ t ∧ t ≤ (hullP ps).2 := by
  cases ps with
  | nil => exact absurd rfl h
  | cons p qs =>
    rcases snoc_cases (p :: qs) with e | ⟨ys, b, e⟩
    · simp at e
    · have e1 : (hullP (p :: qs)).1 = p.1 := rfl
      have e2 : (hullP (p :: qs)).2 = b.2 := by unfold hullP; rw [e, List.getLast?_concat]; rfl
      rw [e1, e2]
      have pb : b ∈ p :: qs := by rw [e]; simp
      refine ⟨⟨p, by simp, Int.le_refl _, n.ne p (by simp)⟩, ⟨b, pb, n.ne b pb, Int.le_refl _⟩, fun t ⟨q, hq, q1, q2⟩ => ⟨?_, ?_⟩⟩
      · rcases List.mem_cons.mp hq with rfl | hq
        · exact q1
        · have := n.after (t := t) ⟨q, hq, q1, q2⟩
          have := n.ne p (by simp)
          omega
      · rw [e] at n hq
        obtain ⟨n1, n2, n3⟩ := n.snoc
        rcases List.mem_append.mp hq with hq | hq
        · have := n2 q hq
          omega
        · rw [List.mem_singleton.mp hq] at q2
          exact q2
theorem hull_uniq {ps qs : List Rg} (n : Neat ps) (m : Neat qs) (h : ∀ t, inR ps t ↔ inR qs t) : hullD ps = hullD qs := by rw [neat_uniq n m h]
theorem s_check_right {rs : List Rp} (h : VR rs) {T : Int} (a : AllR rs T) (hk : 6 ≤ k) {f : Int} (h0 : 0 ≤ f) (h1 : f ≤ 10) : phi (U X) k 45 [eRs rs, .int f] = ret .non := at_def rfl (by omega) (by
  have z1 := h.check (X := X) (k := k - 1) (by omega)
  have z2 := li_ok (X := X) (k := k - 1) (by omega) h0 h1
  have z3 := s_times_with (X := X) (k := k - 1) (by omega) (Nat.le_trans h.len (by decide)) rs.length
  have ne := ne_of_inR (a.mem h.tr (Int.le_refl _))
  have e : (withM rs (rs.length : Int)).isEmpty = false := by
    cases q : withM rs (rs.length : Int) with
    | nil => exact absurd q ne
    | cons _ _ => rfl
  simp -implicitDefEqProofs [f_check_right, b_check_right, z1, z2, z3, e])
theorem s_reachable_times (hk : 4 ≤ k) {rs : List Rp} (h : rs.length ≤ 30) (f : Int) : phi (U X) k 46 [eRs rs, .int f] = ret (eGs (poss rs f)) := at_def rfl (by omega) (by
  have z := s_times_with (X := X) (k := k - 1) (by omega) h (rs.length - f)
  simp -implicitDefEqProofs [f_reachable_times, b_reachable_times, z])
theorem s_reachable {rs : List Rp} (h : VR rs) {T : Int} (a : AllR rs T) (hk : 7 ≤ k) {f : Int} (h0 : 0 ≤ f) (h1 : f ≤ 10) : phi (U X) k 47 [eRs rs, .int f] = ret (eGs (poss rs f)) := at_def rfl (by omega) (by
  have z1 := s_check_right (X := X) (k := k - 1) h a (by omega) h0 h1
  have z2 := s_reachable_times (X := X) (k := k - 1) (by omega) (Nat.le_trans h.len (by decide)) f
  simp -implicitDefEqProofs [f_reachable, b_reachable, z1, z2])
theorem s_worst {rs : List Rp} (h : VR rs) {T : Int} (a : AllR rs T) (hk : 7 ≤ k) {f : Int} (h0 : 0 ≤ f) (h1 : f ≤ 10) : phi (U X) k 48 [eRs rs, .int f] = ret (hullD (poss rs f)) := at_def rfl (by omega) (by
  have z1 := s_check_right (X := X) (k := k - 1) h a (by omega) h0 h1
  have z2 := s_reachable_times (X := X) (k := k - 1) (by omega) (Nat.le_trans h.len (by decide)) f
  have z3 := s_hull (X := X) (k := k - 1) (by omega) (poss rs f)
  simp -implicitDefEqProofs [f_worst_agreed, b_worst_agreed, z1, z2, z3])
theorem s_always {rs : List Rp} (h : VR rs) {T : Int} (a : AllR rs T) (hk : 7 ≤ k) {f : Int} (h0 : 0 ≤ f) (h1 : f ≤ 10) : phi (U X) k 49 [eRs rs, .int f] = ret (hullD (withM rs rs.length)) := at_def rfl (by omega) (by
  have z1 := s_check_right (X := X) (k := k - 1) h a (by omega) h0 h1
  have z2 := s_times_with (X := X) (k := k - 1) (by omega) (Nat.le_trans h.len (by decide)) rs.length
  have z3 := s_hull (X := X) (k := k - 1) (by omega) (withM rs rs.length)
  simp -implicitDefEqProofs [f_always_agreed, b_always_agreed, z1, z2, z3])
def bset (rs : List Rp) (p : Rg) : List Rp := rs.filter fun r => decide (r.lo ≤ p.1) && decide (p.2 ≤ r.hi)
def bsrc (rs : List Rp) (p : Rg) : D := match bset rs p with
  | [] => .non
  | r :: _ => .str r.nm
theorem s_bounding {rs : List Rp} (h : VR rs) {T : Int} (a : AllR rs T) (hk : 7 ≤ k) {f : Int} (h0 : 0 ≤ f) (h1 : f ≤ 10) : phi (U X) k 56 [eRs rs, .int f] = ret (bsrc rs (hullP (poss rs f))) := at_def rfl (by omega) (by
  have z1 := s_check_right (X := X) (k := k - 1) h a (by omega) h0 h1
  have z2 := s_reachable_times (X := X) (k := k - 1) (by omega) (Nat.le_trans h.len (by decide)) f
  have z3 := s_hull (X := X) (k := k - 1) (by omega) (poss rs f)
  rw [hull_ne (ne_of_inR (a.mem h.tr (by omega)))] at z3
  generalize hullP (poss rs f) = p at z3
  have e : bsrc rs p = match bset rs p with
    | [] => .non
    | r :: _ => .str r.nm := rfl
  rw [e]
  cases q : bset rs p with
  | nil =>
    unfold bset at q
    simp -implicitDefEqProofs [f_bounding_source, b_bounding_source, z1, z2, z3, q]
  | cons r t =>
    unfold bset at q
    simp -implicitDefEqProofs [f_bounding_source, b_bounding_source, z1, z2, z3, q])
/-! drawn ones -/
def truth (ns : List Int) (place : Int) : Int := 5 + pick ns place 12
def nrep (ns : List Int) (place : Int) (i : Nat) : Rp := ⟨[97 + i], truth ns place - pick ns (place + 2 + 2 * (i : Int)) 6, truth ns place + pick ns (place + 3 + 2 * (i : Int)) 8⟩
def nreps (ns : List Int) (place most : Int) : List Rp := (List.range (pick ns (place + 1) (most + 1)).toNat).map (nrep ns place)
theorem truth_rng (ns : List Int) (place : Int) : 5 ≤ truth ns place ∧ truth ns place ≤ 16 := by
  have := pick_rng (ns := ns) (i := place) (m := 12) (by decide)
  unfold truth
  omega
theorem nrep_dn (ns : List Int) (place : Int) (i : Nat) : Dn i (nrep ns place i) := by
  have h1 := truth_rng ns place
  have h2 := pick_rng (ns := ns) (i := place + 2 + 2 * (i : Int)) (m := 6) (by decide)
  have h3 := pick_rng (ns := ns) (i := place + 3 + 2 * (i : Int)) (m := 8) (by decide)
  unfold nrep
  constructor <;> simp only <;> omega
theorem nreps_d {ns : List Int} {place most : Int} (h : 0 ≤ most) (h2 : most ≤ 10) : DRs (nreps ns place most) := by
  have hp := pick_rng (ns := ns) (i := place + 1) (m := most + 1) (by omega)
  refine ⟨by simp [nreps]; omega, fun i r h => ?_⟩
  unfold nreps at h
  rw [List.getElem?_map] at h
  obtain ⟨j, h1, rfl⟩ := Option.map_eq_some_iff.mp h
  rw [List.getElem?_range] at h1
  · cases h1
    exact nrep_dn ns place i
  · have := (List.getElem?_eq_some_iff.mp h1).1
    simpa using this
theorem nreps_r (ns : List Int) (place most : Int) : AllR (nreps ns place most) (truth ns place) := by
  have h1 := truth_rng ns place
  refine ⟨by omega, by omega, fun r hr => ?_⟩
  obtain ⟨i, _, rfl⟩ := List.mem_map.mp hr
  have h2 := pick_rng (ns := ns) (i := place + 2 + 2 * (i : Int)) (m := 6) (by decide)
  have h3 := pick_rng (ns := ns) (i := place + 3 + 2 * (i : Int)) (m := 8) (by decide)
  unfold rightB nrep
  simp only [Bool.and_eq_true, decide_eq_true_eq]
  omega
theorem small2 : small 2 = true := by decide
theorem s_near (hk : 2 ≤ k) {ns : List Int} (hl : ns.length ≤ 63) {place most : Int} (h0 : 0 ≤ place) (h1 : place < 9000) (h2 : 0 ≤ most) (h3 : most ≤ 10) : phi (U X) k 53 [eScr ns, .int place, .int most] = ret (eRs (nreps ns place most)) := at_def rfl (by omega) (by
  have hp : ∀ {i m : Int}, 0 ≤ i → i < 99999 → 0 < m → phi (U X) (k - 1) 15 [eScr ns, .int i, .int m] = ret (.int (pick ns i m)) := fun a b c => s_pick (by omega) hl a b c
  have hn := pick_rng (ns := ns) (i := place + 1) (m := most + 1) (by omega)
  have e0 := hp h0 (show place < 99999 by omega) (show (0 : Int) < 12 by decide)
  have hit : evi (Lk' X (k - 1)) (.rng1 (.call 15 (.cons (.var 0) (.cons (.bin .add (.var 1) (.cst (.int 1))) (.cons (.bin .add (.var 2) (.cst (.int 1))) .nil))))) [.v (eScr ns), .v (.int place), .v (.int most), .v (.int (truth ns place)), .o [], .none, .none] = ret ((List.range (pick ns (place + 1) (most + 1)).toNat).map fun i : Nat => D.int (0 + i)) := by
    have e := hp (i := place + 1) (m := most + 1) (by omega) (by omega) (by omega)
    have hr : rngOk 0 (pick ns (place + 1) (most + 1)) = true := by unfold rngOk; simp; omega
    have hr := rngD_eq hr
    rw [Int.sub_zero] at hr
    simp -implicitDefEqProofs [e, hr]
  obtain ⟨r', e1, s5, s6, rfl⟩ := fo_invJ (L := Lk' X (k - 1)) (s := l0__law_near) rfl hit
    (fun pre r => ∃ s5 s6, r = [.v (eScr ns), .v (.int place), .v (.int most), .v (.int (truth ns place)), .o (pre.map fun i => eR (nrep ns place i)), s5, s6]) ⟨_, _, rfl⟩ (by
      rintro pre i post r e ⟨s5, s6, rfl⟩ J hJ
      obtain ⟨rfl, hi⟩ := range_at e
      have hlp : pre.length < 16777216 := by omega
      have hi2 : pre.length < 10 := by omega
      have z1 := hp (i := place + 2 + 2 * (pre.length : Int)) (m := 6) (by omega) (by omega) (by decide)
      have z2 := hp (i := place + 3 + 2 * (pre.length : Int)) (m := 8) (by omega) (by omega) (by decide)
      have q2 := sub_abc hi2
      simp -implicitDefEqProofs [l0b__law_near, small2, z1, z2, q2, hlp]
      exact goes (hJ _ ⟨_, _, by rw [List.map_append]; rfl⟩))
  have e0' : truth ns place = 5 + pick ns place 12 := rfl
  rw [e0'] at e1
  simp -implicitDefEqProofs [f__law_near, b__law_near, e0, e1, nreps])
theorem s_with (hk : 2 ≤ k) {rs : List Rp} (h : DRs rs) (m : Int) : phi (U X) k 54 [eRs rs, .int m] = ret (eGs (withM rs m)) := at_def rfl (by omega) (by
  have z1 := s_times (X := X) (k := k - 1) (by omega)
  have z2 := fun t => s_right (X := X) (k := k - 1) (by omega) (Nat.le_trans h.len (by decide)) t
  have z3 := s_ranges (X := X) (k := k - 1) (by omega) (ts := tms) (gs := tms.map fun t => decide (m ≤ (cnt rs t : Int))) (by decide) (by simp)
  rw [show lrg tms (tms.map fun t => decide (m ≤ (cnt rs t : Int))) = withM rs m from (h.looked m).symm] at z3
  simp only [List.map_map, compd] at z3
  simp -implicitDefEqProofs [f__law_with, b__law_with, z1, z2, z3])
def insideB (ps : List Rg) (t : Int) : Bool := ps.any fun p => decide (p.1 ≤ t) && decide (t ≤ p.2)
theorem inside_iff {ps : List Rg} {t : Int} : insideB ps t = true ↔ inR ps t := by
  unfold insideB inR
  simp
theorem s_inside (hk : 1 ≤ k) (ps : List Rg) (t : Int) : phi (U X) k 55 [eGs ps, .int t] = ret (.bl (insideB ps t)) := at_def rfl (by omega) (by
  simp -implicitDefEqProofs [f__law_inside, b__law_inside, insideB])
/-- two great parts meet -/
theorem meet {α : Type} (p q : α → Bool) : ∀ xs : List α, (xs.filter p).length + (xs.filter q).length ≤ xs.length + (xs.filter fun x => p x && q x).length
  | [] => by simp
  | x :: xs => by
    have := meet p q xs
    cases h1 : p x <;> cases h2 : q x <;> simp [List.filter_cons, h1, h2] <;> omega
end Lw
end
section
/-! names in order; reports put together, taken away -/
namespace Lw
open Py
variable {X : List Fd} {k : Nat}
theorem txLt_irr : ∀ x : Tx, txLt x x = false
  | [] => rfl
  | x :: xs => by simp [txLt, txLt_irr xs]
theorem txLt_tr : ∀ {x y z : Tx}, txLt x y = true → txLt y z = true → txLt x z = true
  | [], y, [], h1, h2 => by cases y <;> simp [txLt] at *
  | [], _, _ :: _, _, _ => rfl
  | _ :: _, [], _, h1, _ => by simp [txLt] at h1
  | _ :: _, _ :: _, [], _, h2 => by simp [txLt] at h2
  | x :: xs, y :: ys, z :: zs, h1, h2 => by
    simp only [txLt] at h1 h2 ⊢
    by_cases a : x < y
    · by_cases b : y < z
      · simp [show x < z by omega]
      · by_cases c : z < y
        · simp [b, c] at h2
        · simp [show x < z by omega]
    · by_cases a2 : y < x
      · simp [a, a2] at h1
      · have e : x = y := by omega
        subst e
        simp only [Nat.lt_irrefl, if_false] at h1
        by_cases b : x < z
        · simp [b]
        · by_cases c : z < x
          · simp [b, c] at h2
          · simp only [b, c, if_false] at h2 ⊢
            exact txLt_tr h1 h2
theorem txLt_tri : ∀ (x y : Tx), txLt x y = true ∨ x = y ∨ txLt y x = true
  | [], [] => .inr (.inl rfl)
  | [], _ :: _ => .inl rfl
  | _ :: _, [] => .inr (.inr rfl)
  | x :: xs, y :: ys => by
    simp only [txLt]
    by_cases a : x < y
    · simp [a]
    · by_cases b : y < x
      · simp [b]
      · have e : x = y := by omega
        subst e
        rcases txLt_tri xs ys with h | h | h <;> simp [h]
theorem txLt_asym {x y : Tx} (h : txLt x y = true) : txLt y x = false := by
  cases q : txLt y x with
  | false => rfl
  | true =>
    have := txLt_tr h q
    rw [txLt_irr] at this
    cases this
theorem asc_pw : ∀ {ns : List Tx}, asc ns = true → ns.Pairwise fun a b => txLt a b = true
  | [], _ => List.Pairwise.nil
  | [_], _ => List.pairwise_singleton _ _
  | a :: b :: r, h => by
    simp only [asc, tl_cons, List.zip_cons_cons, List.all_cons, Bool.and_eq_true] at h
    have ih := asc_pw (ns := b :: r) (by simp only [asc, tl_cons]; exact h.2)
    refine List.pairwise_cons.mpr ⟨fun c hc => ?_, ih⟩
    rcases List.mem_cons.mp hc with rfl | hc
    · exact h.1
    · exact txLt_tr h.1 ((List.pairwise_cons.mp ih).1 c hc)
theorem VR.pw {rs : List Rp} (h : VR rs) : rs.Pairwise fun a b => txLt a.nm b.nm = true := List.pairwise_map.mp (asc_pw h.asc)
theorem VR.mk' {rs : List Rp} (h1 : rs.length ≤ 10) (h2 : ∀ r ∈ rs, repB r = true) (h3 : rs.Pairwise fun a b => txLt a.nm b.nm = true) : VR rs := ⟨h1, h2, asc_of (List.pairwise_map.mpr h3)⟩
theorem VR.tail {r : Rp} {rs : List Rp} (h : VR (r :: rs)) : VR rs := .mk' (by have := h.len; simp at this; omega) (fun x hx => h.rep x (by simp [hx])) (List.pairwise_cons.mp h.pw).2
theorem VR.sub {rs ss : List Rp} (h : VR rs) (s : ss.Sublist rs) : VR ss := .mk' (Nat.le_trans s.length_le h.len) (fun x hx => h.rep x (s.subset hx)) (h.pw.sublist s)
/-- reports are told by their members -/
theorem VR.uniq : ∀ {rs ss : List Rp}, VR rs → VR ss → (∀ r, r ∈ rs ↔ r ∈ ss) → rs = ss
  | [], [], _, _, _ => rfl
  | [], s :: ss, _, _, h => by have := (h s).mpr (by simp); simp at this
  | r :: rs, [], _, _, h => by have := (h r).mp (by simp); simp at this
  | r :: rs, s :: ss, hr, hs, h => by
    obtain ⟨r1, r2⟩ := List.pairwise_cons.mp hr.pw
    obtain ⟨s1, s2⟩ := List.pairwise_cons.mp hs.pw
    have e : r = s := by
      rcases List.mem_cons.mp ((h r).mp (by simp)) with e | e
      · exact e
      · rcases List.mem_cons.mp ((h s).mpr (by simp)) with e2 | e2
        · exact e2.symm
        · have a := txLt_tr (s1 r e) (r1 s e2)
          rw [txLt_irr] at a
          cases a
    subst e
    congr 1
    refine VR.uniq hr.tail hs.tail fun x => ?_
    constructor
    · intro hx
      rcases List.mem_cons.mp ((h x).mp (by simp [hx])) with e | e
      · have a := r1 x hx
        rw [e, txLt_irr] at a
        cases a
      · exact e
    · intro hx
      rcases List.mem_cons.mp ((h x).mpr (by simp [hx])) with e | e
      · have a := s1 x hx
        rw [e, txLt_irr] at a
        cases a
      · exact e
def ltR (a b : Rp) : Bool := ltF (eR a) (eR b)
theorem ltR_t {a b : Rp} (h : ltR a b = true) : txLt a.nm b.nm = true ∨ a.nm = b.nm := by
  simp only [ltR, eR, ltF, ltFl, ltI, Bool.or_eq_true, Bool.and_eq_true, Bool.not_eq_true'] at h
  rcases txLt_tri a.nm b.nm with q | q | q
  · exact .inl q
  · exact .inr q
  · rcases h with h | h
    · exact .inl h
    · rw [q] at h; cases h.1
theorem ltR_f {a b : Rp} (h : ltR a b = false) : txLt b.nm a.nm = true ∨ b.nm = a.nm := by
  simp only [ltR, eR, ltF, ltFl, ltI, Bool.or_eq_false_iff] at h
  rcases txLt_tri a.nm b.nm with q | q | q
  · rw [q] at h; cases h.1
  · exact .inr q.symm
  · exact .inl q
theorem nmle_tr {a b c : Tx} (h1 : txLt a b = true ∨ a = b) (h2 : txLt b c = true ∨ b = c) : txLt a c = true ∨ a = c := by
  rcases h1 with h1 | rfl
  · rcases h2 with h2 | rfl
    · exact .inl (txLt_tr h1 h2)
    · exact .inl h1
  · exact h2
@[simp] theorem b_sortedR (rs : List Rp) : bltD .sorted [.tup (rs.map eR)] = some (.lst ((isort ltR rs).map eR)) := by
  rw [bltD, sortedD, sortD_tup (sh := fun i => i == 0) (lt := ltR) (fun _ _ => rfl) (.tail _ (.tail _ (.head _))) (fun _ => rfl)]
  rfl
theorem sort_VR {rs : List Rp} (h1 : rs.length ≤ 10) (h2 : ∀ r ∈ rs, repB r = true) (h3 : (rs.map (·.nm)).Nodup) : VR (isort ltR rs) := by
  have hp := isort_perm (lt := ltR) rs
  refine .mk' (by rw [hp.length_eq]; exact h1) (fun r hr => h2 r (hp.mem_iff.mp hr)) ?_
  have s := isort_sorted (lt := ltR) (fun a b => txLt a.nm b.nm = true ∨ a.nm = b.nm) (fun _ _ => ltR_t) (fun _ _ => ltR_f) (fun _ _ _ => nmle_tr) rs
  have nd : ((isort ltR rs).map (·.nm)).Nodup := (hp.map _).nodup_iff.mpr h3
  have nd' := List.pairwise_map.mp nd
  exact (s.and nd').imp fun ⟨a, b⟩ => a.resolve_right b
@[simp] theorem in_names (n : Tx) (ns : List Tx) : inD (.str n) (.lst (ns.map .str)) = some (decide (n ∈ ns)) := by
  rw [inD]
  have e : (ns.map D.str).any (fun y => eqD y (.str n)) = decide (n ∈ ns) := by
    rw [List.any_map]
    simp only [compd, eqD_str]
    by_cases h : n ∈ ns
    · rw [decide_eq_true h, List.any_eq_true]
      exact ⟨n, h, by simp⟩
    · rw [decide_eq_false h, List.any_eq_false]
      intro x hx q
      exact h (by rw [← eq_of_beq q]; exact hx)
  simp [e]
theorem any_names (n : Tx) (ns : List Tx) : (ns.map D.str).any (fun y => eqD y (.str n)) = decide (n ∈ ns) := by
  rw [List.any_map]
  simp only [compd, eqD_str]
  by_cases h : n ∈ ns
  · rw [decide_eq_true h, List.any_eq_true]
    exact ⟨n, h, by simp⟩
  · rw [decide_eq_false h, List.any_eq_false]
    intro x hx q
    exact h (by rw [← eq_of_beq q]; exact hx)
@[simp] theorem in_tnames (n : Tx) (ns : List Tx) : inD (.str n) (.tup (ns.map .str)) = some (decide (n ∈ ns)) := by
  rw [inD, any_names]
  simp
theorem s_together {one other : List Rp} (h1 : VR one) (h2 : VR other) (hd : ∀ r ∈ other, r.nm ∉ one.map (·.nm)) (hl : one.length + other.length ≤ 10) (hk : 6 ≤ k) :
    phi (U X) k 14 [eRs one, eRs other] = ret (eRs (isort ltR (one ++ other))) ∧ VR (isort ltR (one ++ other)) := by
  refine ⟨at_def rfl (by omega) ?_, sort_VR (by simpa using hl) (fun r hr => ?_) ?_⟩
  · have z1 := h1.check (X := X) (k := k - 1) (by omega)
    have z2 := h2.check (X := X) (k := k - 1) (by omega)
    have z3 := s_sources (X := X) (k := k - 1) (by omega) one
    have z4 := s_sources (X := X) (k := k - 1) (by omega) other
    generalize hn : one.map (·.nm) = ns at z3 hd
    have e : ¬ ∃ x, x ∈ other ∧ x.nm ∈ ns := fun ⟨x, a, b⟩ => hd x a b
    have hl2 : one.length + other.length ≤ 16777216 := by omega
    have hl3 : ¬ (10 : Int) < one.length + other.length := by omega
    have hs := b_sortedR (one ++ other)
    rw [List.map_append] at hs
    simp -implicitDefEqProofs [f_together, b_together, z1, z2, z3, z4, e, hl2, hl3, hs]
  · rcases List.mem_append.mp hr with hr | hr
    · exact h1.rep r hr
    · exact h2.rep r hr
  · rw [List.map_append, List.nodup_append]
    have nd : ∀ {rs : List Rp}, VR rs → (rs.map (·.nm)).Nodup := fun {rs} h => List.pairwise_map.mpr (h.pw.imp fun {a b} z e => by rw [e, txLt_irr] at z; cases z)
    refine ⟨nd h1, nd h2, fun a ha b hb => ?_⟩
    obtain ⟨r, hr, rfl⟩ := List.mem_map.mp hb
    intro e
    exact hd r hr (by rw [← e]; exact ha)
theorem cnt_perm {rs ss : List Rp} (h : rs.Perm ss) (t : Int) : cnt rs t = cnt ss t := (h.filter _).length_eq
theorem cnt_app (rs ss : List Rp) (t : Int) : cnt (rs ++ ss) t = cnt rs t + cnt ss t := by simp [cnt]
theorem cnt_tog (one other : List Rp) (t : Int) : cnt (isort ltR (one ++ other)) t = cnt one t + cnt other t := by rw [cnt_perm (isort_perm _), cnt_app]
theorem len_tog (one other : List Rp) : (isort ltR (one ++ other)).length = one.length + other.length := by rw [(isort_perm _).length_eq, List.length_append]
end Lw
end
section
/-! sources taken away; ranges within ranges -/
namespace Lw
open Py
variable {X : List Fd} {k : Nat}
theorem eqD_strS (a b : Tx) : eqD (.str a) (.str b) = decide (a = b) := by
  rw [eqD_str]
  by_cases h : a = b <;> simp [h]
theorem eqL_S (a b : List Tx) : eqL (a.map .str) (b.map .str) = decide (a = b) := eqL_map eqD_strS a b
theorem s_are_names (hk : 2 ≤ k) (rs : List Rp) {ns : List Tx} (h : ∀ n ∈ ns, nmB n = true) : phi (U X) k 12 [eRs rs, tNs ns] = ret (.bl (decide (ns = (rs.map (·.nm)).filter fun n => decide (n ∈ ns)))) := at_def rfl (by omega) (by
  have z1 := s_sources (X := X) (k := k - 1) (by omega) rs
  have z2 : (compM ns fun n => noexc (bnd (phi (U X) (k - 1) 2 [.str n]) fun y => ret (some y))) = ret (ns.map fun n => .bl true) := compM_ok fun n hn => by
    rw [s_is_name_s (by omega) (by have := nmB_len (h n hn); show n.length ≤ 16777216; omega), h n hn]; rfl
  generalize rs.map (·.nm) = known at z1
  have e : (ns.all fun _ => true) = true := by simp
  have e2 := eqL_S ns (known.filter fun n => decide (n ∈ ns))
  simp -implicitDefEqProofs [f_are_names, b_are_names, isTy, z1, z2, e2])
theorem s_without {rs : List Rp} (hv : VR rs) (hk : 6 ≤ k) {ns : List Tx} (h : ∀ n ∈ ns, nmB n = true) (ha : ns = (rs.map (·.nm)).filter fun n => decide (n ∈ ns)) : phi (U X) k 13 [eRs rs, tNs ns] = ret (eRs (rs.filter fun r => decide (r.nm ∉ ns))) := at_def rfl (by omega) (by
  have z1 := hv.check (X := X) (k := k - 1) (by omega)
  have z2 := s_are_names (X := X) (k := k - 1) (by omega) rs h
  rw [decide_eq_true ha] at z2
  simp -implicitDefEqProofs [f_without, b_without, z1, z2, ixN])
theorem VR.nd {rs : List Rp} (h : VR rs) : (rs.map (·.nm)).Nodup := List.pairwise_map.mpr (h.pw.imp fun {a b} z e => by rw [e, txLt_irr] at z; cases z)
theorem filter_one : ∀ {xs : List Tx} {x : Tx}, xs.Nodup → x ∈ xs → xs.filter (fun y => decide (y ∈ [x])) = [x]
  | [], x, _, h => by simp at h
  | y :: ys, x, nd, h => by
    obtain ⟨n1, n2⟩ := List.nodup_cons.mp nd
    rcases List.mem_cons.mp h with rfl | h
    · have : ys.filter (fun y => decide (y ∈ [x])) = [] := List.filter_eq_nil_iff.mpr fun z hz q => n1 (by
        have : z = x := by simpa using q
        rw [← this]; exact hz)
      simp only [List.mem_singleton] at this
      simp [List.filter_cons, this]
    · have hne : y ≠ x := fun e => n1 (by rw [e]; exact h)
      have ih := filter_one n2 h
      simp only [List.mem_singleton] at ih
      simp [List.filter_cons, hne, ih]
theorem s_without1 {rs : List Rp} (hv : VR rs) (hk : 6 ≤ k) {r : Rp} (hr : r ∈ rs) : phi (U X) k 13 [eRs rs, .tup [.str r.nm]] = ret (eRs (rs.filter fun x => decide (x.nm ∉ [r.nm]))) :=
  s_without hv hk (ns := [r.nm]) (fun n hn => by rw [List.mem_singleton.mp hn]; exact repB_nm (hv.rep r hr)) (filter_one hv.nd (List.mem_map.mpr ⟨r, hr, rfl⟩)).symm
/-- one of them left out -/
theorem drop_one {rs : List Rp} (hv : VR rs) {r : Rp} (hr : r ∈ rs) : ∃ a b, rs = a ++ r :: b ∧ (rs.filter fun x => decide (x.nm ∉ [r.nm])) = a ++ b := by
  obtain ⟨a, b, rfl⟩ := List.append_of_mem hr
  refine ⟨a, b, rfl, ?_⟩
  have nd := hv.nd
  simp only [List.map_append, List.map_cons] at nd
  have nd := List.nodup_append.mp nd
  have n2 := List.nodup_cons.mp nd.2.1
  have e1 : (a.filter fun x => decide (x.nm ∉ [r.nm])) = a := List.filter_eq_self.mpr fun x hx => by
    have := nd.2.2 x.nm (List.mem_map.mpr ⟨x, hx, rfl⟩) r.nm (by simp)
    simp [this]
  have e2 : (b.filter fun x => decide (x.nm ∉ [r.nm])) = b := List.filter_eq_self.mpr fun x hx => by
    have : x.nm ≠ r.nm := fun e => n2.1 (by rw [← e]; exact List.mem_map.mpr ⟨x, hx, rfl⟩)
    simp [this]
  rw [List.filter_append, List.filter_cons_of_neg (by simp), e1, e2]
def allIn (ps qs : List Rg) : Bool := ps.all fun p => qs.any fun q => decide (q.1 ≤ p.1) && decide (p.2 ≤ q.2)
theorem within {p : Rg} {qs : List Rg} (hp : p.1 ≤ p.2) (n : Neat qs) (h : ∀ t, p.1 ≤ t → t ≤ p.2 → inR qs t) : ∃ q ∈ qs, q.1 ≤ p.1 ∧ p.2 ≤ q.2 := by
  obtain ⟨q, hq, q1, q2⟩ := h p.1 (Int.le_refl _) hp
  refine ⟨q, hq, q1, ?_⟩
  apply Int.not_lt.mp
  intro hlt
  obtain ⟨r, hr, r1, r2⟩ := h (q.2 + 1) (by omega) (by omega)
  by_cases e : q = r
  · subst e; omega
  · have hqn := n.ne q hq
    have key : ∀ {a b : Rg}, a ∈ qs → b ∈ qs → a ≠ b → a.2 + 1 < b.1 ∨ b.2 + 1 < a.1 := fun {a b} ha hb hne => by
      have g := n.gap
      revert ha hb g
      clear n h hq hr
      induction qs with
      | nil => intro ha; simp at ha
      | cons x xs ih =>
        intro ha hb g
        obtain ⟨g1, g2⟩ := List.pairwise_cons.mp g
        rcases List.mem_cons.mp ha with ea | ha'
        · rcases List.mem_cons.mp hb with eb | hb'
          · exact absurd (ea.trans eb.symm) hne
          · rw [ea]; exact .inl (g1 b hb')
        · rcases List.mem_cons.mp hb with eb | hb'
          · rw [eb]; exact .inr (g1 a ha')
          · exact ih ha' hb' g2
    rcases key hq hr e with z | z <;> omega
theorem allIn_of {ps qs : List Rg} (hp : ∀ p ∈ ps, p.1 ≤ p.2) (n : Neat qs) (h : ∀ t, inR ps t → inR qs t) : allIn ps qs = true := by
  unfold allIn
  rw [List.all_eq_true]
  intro p hp'
  obtain ⟨q, hq, q1, q2⟩ := within (hp p hp') n fun t t1 t2 => h t ⟨p, hp', t1, t2⟩
  exact List.any_eq_true.mpr ⟨q, hq, by simp [q1, q2]⟩
theorem allIn_one {qs : List Rg} {t : Int} : allIn [(t, t)] qs = insideB qs t := by simp [allIn, insideB]
end Lw
end
section
/-! the worst lies -/
namespace Lw
open Py
variable {X : List Fd} {k : Nat}
theorem cut_to {α : Type} (xs : List α) (n : Nat) : cut xs none (some (n : Int)) = xs.take n := by
  simp only [cut, sIx, List.drop_zero, Nat.sub_zero]
  rw [if_neg (by omega), Int.toNat_natCast]
  by_cases h : n ≤ xs.length
  · rw [Nat.min_eq_left h]
  · rw [Nat.min_eq_right (by omega), List.take_of_length_le (by omega), List.take_of_length_le (by omega)]
@[simp] theorem slH_l (xs : List D) (n : Nat) : slcD (.lst xs) none (some (n : Int)) = some (.lst (xs.take n)) := by rw [slcD, cut_to]
@[simp] theorem slH_t (xs : List D) (n : Nat) : slcD (.tup xs) none (some (n : Int)) = some (.tup (xs.take n)) := by rw [slcD, cut_to]
theorem s_check_sum {rs : List Rp} (h : VR rs) {T : Int} (a : AllR rs T) (hk : 7 ≤ k) {f : Int} (h0 : 0 ≤ f) (h1 : rs.length + f ≤ 10) : phi (U X) k 50 [eRs rs, .int f] = ret .non := at_def rfl (by omega) (by
  have z1 := s_check_right (X := X) (k := k - 1) h a (by omega) h0 (by omega)
  have g : ¬ (10 : Int) < rs.length + f := by omega
  simp -implicitDefEqProofs [f_check_sum, b_check_sum, z1, g])
def freeL (ns : List Tx) : List Tx := (Letters.map fun c => [c]).filter fun n => decide (n ∉ ns)
def wlies (rs : List Rp) (f : Nat) : List Rp := ((freeL (rs.map (·.nm))).take f).map fun n => ⟨n, (hullP (poss rs f)).1, (hullP (poss rs f)).2⟩
theorem s_worst_lies {rs : List Rp} (h : VR rs) {T : Int} (a : AllR rs T) (hk : 8 ≤ k) {f : Nat} (h1 : rs.length + f ≤ 10) : phi (U X) k 51 [eRs rs, .int f] = ret (eRs (wlies rs f)) := at_def rfl (by omega) (by
  have z1 := s_check_sum (X := X) (k := k - 1) h a (by omega) (f := f) (by omega) (by omega)
  have z2 := s_reachable_times (X := X) (k := k - 1) (by omega) (Nat.le_trans h.len (by decide)) f
  have z3 := s_hull (X := X) (k := k - 1) (by omega) (poss rs f)
  rw [hull_ne (ne_of_inR (a.mem h.tr (by omega)))] at z3
  have z4 := s_sources (X := X) (k := k - 1) (by omega) rs
  unfold wlies freeL
  have hL : Letters.length ≤ LIM := by decide
  generalize hullP (poss rs f) = p at *
  generalize rs.map (·.nm) = ns at *
  simp -implicitDefEqProofs [f_worst_lies, b_worst_lies, z1, z2, z3, z4, hL, List.filter_map])
theorem DRs.names {rs : List Rp} (h : DRs rs) : rs.map (·.nm) = (List.range rs.length).map fun i => [97 + i] := by
  refine List.ext_getElem (by simp) fun i h1 h2 => ?_
  simp only [List.getElem_map, List.getElem_range]
  exact (h.at_ i _ (List.getElem?_eq_getElem (by simpa using h1))).nm
theorem free_ok : ∀ n, n ≤ 6 → (freeL ((List.range n).map fun i => [97 + i])).Pairwise (fun a b => txLt a b = true) ∧ (∀ x ∈ freeL ((List.range n).map fun i => [97 + i]), nmB x = true) ∧ 10 ≤ (freeL ((List.range n).map fun i => [97 + i])).length := by
  intro n h
  have : n = 0 ∨ n = 1 ∨ n = 2 ∨ n = 3 ∨ n = 4 ∨ n = 5 ∨ n = 6 := by omega
  rcases this with rfl | rfl | rfl | rfl | rfl | rfl | rfl <;> decide +kernel
theorem take_sub {α : Type} (xs : List α) (n : Nat) : (xs.take n).Sublist xs := List.take_sublist n xs
theorem wlies_ok {rs : List Rp} (h : DRs rs) (hl : rs.length ≤ 6) {T : Int} (a : AllR rs T) {f : Nat} (hf : f ≤ 4) :
    VR (wlies rs f) ∧ (wlies rs f).length = f ∧ (∀ r ∈ wlies rs f, r.nm ∉ rs.map (·.nm)) ∧ ∀ r ∈ wlies rs f, r.lo = (hullP (poss rs f)).1 ∧ r.hi = (hullP (poss rs f)).2 := by
  have ht := h.vr.tr
  have hT := a.mem ht (m := rs.length - f) (by omega)
  obtain ⟨w1, w2⟩ := withM_spec ht (rs.length - f)
  obtain ⟨h1, h2, h3⟩ := hull_spec w1 (ne_of_inR hT)
  have hT' := h3 T hT
  obtain ⟨f1, f2, f3⟩ := free_ok rs.length hl
  unfold wlies
  rw [h.names]
  have hd : ∀ n ∈ freeL ((List.range rs.length).map fun i => [97 + i]), n ∉ (List.range rs.length).map fun i => [97 + i] := fun n hn => by
    unfold freeL at hn
    simpa using (List.mem_filter.mp hn).2
  generalize freeL ((List.range rs.length).map fun i => [97 + i]) = F at *
  change inR (poss rs f) _ at h1
  change inR (poss rs f) _ at h2
  change (hullP (poss rs f)).1 ≤ T ∧ T ≤ (hullP (poss rs f)).2 at hT'
  have b1 := (w2 _).mp h1
  have b2 := (w2 _).mp h2
  generalize hullP (poss rs f) = p at *
  refine ⟨.mk' (by simp; omega) (fun r hr => ?_) ?_, by simp; omega, fun r hr => ?_, fun r hr => ?_⟩
  · obtain ⟨n, hn, rfl⟩ := List.mem_map.mp hr
    simp only [repB, f2 n ((take_sub F f).subset hn), Bool.true_and, Bool.and_eq_true, decide_eq_true_eq]
    omega
  · rw [List.pairwise_map]
    exact f1.sublist (take_sub F f)
  · obtain ⟨n, hn, rfl⟩ := List.mem_map.mp hr
    exact hd n ((take_sub F f).subset hn)
  · obtain ⟨n, hn, rfl⟩ := List.mem_map.mp hr
    exact ⟨rfl, rfl⟩
/-- the times with the lies -/
theorem both_in {rs L : List Rp} (h : TR rs) (hL : TR (rs ++ L)) {m : Int} {t : Int} : inR (withM (rs ++ L) m) t ↔ 0 ≤ t ∧ t ≤ 9999 ∧ m ≤ (cnt rs t : Int) + cnt L t := by
  rw [(withM_spec hL m).2 t, cnt_app]
  omega
theorem TR.app {rs L : List Rp} (h : TR rs) (h2 : TR L) : TR (rs ++ L) := ⟨fun r hr => by
  rcases List.mem_append.mp hr with q | q
  · exact h.t r q
  · exact h2.t r q⟩
theorem hull_same {ps qs : List Rg} (n : Neat ps) (m : Neat qs) (h0 : qs ≠ []) (h1 : inR ps (hullP qs).1) (h2 : inR ps (hullP qs).2) (hs : ∀ t, inR ps t → inR qs t) : hullP ps = hullP qs := by
  obtain ⟨a1, a2, a3⟩ := hull_spec n (ne_of_inR h1)
  obtain ⟨b1, b2, b3⟩ := hull_spec m h0
  have c1 := a3 _ h1
  have c2 := a3 _ h2
  have c3 := b3 _ (hs _ a1)
  have c4 := b3 _ (hs _ a2)
  generalize hullP ps = p at *
  generalize hullP qs = q at *
  obtain ⟨p1, p2⟩ := p
  obtain ⟨q1, q2⟩ := q
  simp only [Prod.mk.injEq] at *
  omega
theorem eqD_G (a b : Rg) : eqD (eG a) (eG b) = decide (a = b) := by
  obtain ⟨a1, a2⟩ := a
  obtain ⟨b1, b2⟩ := b
  simp only [eG, eqD_tup, eqL_cons, eqD_int, eqL_nil, Bool.and_true, Prod.mk.injEq]
  by_cases h1 : a1 = b1 <;> by_cases h2 : a2 = b2 <;> simp [h1, h2]
theorem eqL_G (a b : List Rg) : eqL (a.map eG) (b.map eG) = decide (a = b) := eqL_map eqD_G a b
theorem hull_sh (ps : List Rg) : shS (hullD ps) = true ∧ shp 8 (hullD ps) = true := by
  unfold hullD
  split <;> simp
theorem hull_eq (ps : List Rg) : eqD (hullD ps) (hullD ps) = true := by
  unfold hullD
  split <;> simp [eqD]
theorem s_withr (hk : 1 ≤ k) {rs : List Rp} (h : DRs rs) (m : Int) : phi (U X) k 30 [.lst (tms.map .int), .lst (tms.map fun t => .bl (decide (m ≤ (cnt rs t : Int))))] = ret (eGs (withM rs m)) := by
  have z := s_ranges (X := X) (k := k) hk (ts := tms) (gs := (tms.map fun t => decide (m ≤ (cnt rs t : Int)))) (by decide) (by simp)
  rw [List.map_map] at z
  rw [show lrg tms (tms.map fun t => decide (m ≤ (cnt rs t : Int))) = withM rs m from (h.looked m).symm] at z
  exact z
theorem cnt_in {L : List Rp} {p : Rg} (h : ∀ r ∈ L, r.lo = p.1 ∧ r.hi = p.2) {t : Int} (h1 : p.1 ≤ t) (h2 : t ≤ p.2) : cnt L t = L.length := by
  unfold cnt
  rw [List.filter_eq_self.mpr fun r hr => by
    have := h r hr
    simp only [rightB, Bool.and_eq_true, decide_eq_true_eq]
    omega]
theorem pair_eq (q p : Rg) : (q.1 == p.1 && q.2 == p.2) = decide (q = p) := by
  obtain ⟨a, b⟩ := q
  obtain ⟨c, d⟩ := p
  by_cases h1 : a = c <;> by_cases h2 : b = d <;> simp [h1, h2]
theorem s_awl {rs : List Rp} (h : VR rs) {T : Int} (a : AllR rs T) (hk : 8 ≤ k) {L : List Rp} (hL : VR L) (hd : ∀ r ∈ L, r.nm ∉ rs.map (·.nm)) {f : Nat} (h1 : rs.length + f ≤ 10) (hl : L.length = f) :
    phi (U X) k 52 [eRs rs, .int f, eRs L] = ret (.bl (decide (hullP (withM (rs ++ L) rs.length) = hullP (poss rs f)))) := at_def rfl (by omega) (by
  have z1 := s_check_sum (X := X) (k := k - 1) h a (by omega) (f := f) (by omega) (by omega)
  have z2 := s_reachable_times (X := X) (k := k - 1) (by omega) (Nat.le_trans h.len (by decide)) f
  have z3 := s_hull (X := X) (k := k - 1) (by omega) (poss rs f)
  rw [hull_ne (ne_of_inR (a.mem h.tr (by omega)))] at z3
  have z4 := s_are_reports (X := X) (k := k - 1) (by omega) hL.pl
  rw [hL.are] at z4
  have z5 := s_sources (X := X) (k := k - 1) (by omega) rs
  have z6 := s_sources (X := X) (k := k - 1) (by omega) L
  have hll := hL.len
  have hrl := h.len
  have z7 := s_possible_times (X := X) (k := k - 1) (by omega) (rs := rs ++ L) (by simp; omega) f
  have e : ((rs ++ L).length : Int) - f = rs.length := by simp; omega
  rw [e] at z7
  have z8 := s_hull (X := X) (k := k - 1) (by omega) (withM (rs ++ L) rs.length)
  have hT : inR (withM (rs ++ L) rs.length) T := (both_in h.tr (h.tr.app hL.tr)).mpr ⟨a.t0, a.t1, by rw [a.cnt]; omega⟩
  rw [hull_ne (ne_of_inR hT)] at z8
  generalize hullP (withM (rs ++ L) rs.length) = q at *
  generalize hullP (poss rs f) = p at *
  generalize hn : rs.map (·.nm) = ns at z5 hd
  have g : ¬ ∃ x, x ∈ L ∧ x.nm ∈ ns := fun ⟨x, a, b⟩ => hd x a b
  have g2 : rs.length + L.length ≤ LIM := by show _ ≤ 16777216; omega
  subst hl
  simp only [eRs, List.map_append] at z7
  simp -implicitDefEqProofs [f_are_worst_lies, b_are_worst_lies, z1, z2, z3, z4, z5, z6, z7, z8, g, g2, pair_eq])
theorem s_awl_no {rs : List Rp} (h : VR rs) {T : Int} (a : AllR rs T) (hk : 8 ≤ k) {L : List Rp} (hL : VR L) {f : Nat} (h1 : rs.length + f ≤ 10) (hl : L.length ≠ f) :
    phi (U X) k 52 [eRs rs, .int f, eRs L] = ret (.bl false) := at_def rfl (by omega) (by
  have z1 := s_check_sum (X := X) (k := k - 1) h a (by omega) (f := f) (by omega) (by omega)
  have z4 := s_are_reports (X := X) (k := k - 1) (by omega) hL.pl
  rw [hL.are] at z4
  have hl' : ¬ (L.length : Int) = f := by omega
  simp -implicitDefEqProofs [f_are_worst_lies, b_are_worst_lies, z1, z4, hl'])
end Lw
end
section
/-! rounds -/
namespace Lw
open Py
variable {X : List Fd} {k : Nat}
theorem small_of {i : Int} (h1 : -1000000000 ≤ i) (h2 : i ≤ 1000000000) : small i = true := by
  unfold small
  rw [decide_eq_true (by omega), decide_eq_true (by omega)]
  rfl
abbrev Rd := Int × List Rp
def eD (r : Rd) : D := .tup [.int r.1, eRs r.2]
abbrev eLg (l : List Rd) : D := .tup (l.map eD)
def m9 (x : Int) : Int := if 9999 < x then 9999 else x
theorem m9_le (x : Int) : m9 x ≤ 9999 ∧ m9 x ≤ x ∧ (m9 x = x ∨ m9 x = 9999) := by
  unfold m9
  split <;> omega
def growP (ps : List Rg) (a b : Int) : List Rg := (ps.map fun p => (p.1 + a, m9 (p.2 + b))).filter fun p => decide (p.1 ≤ p.2)
def grow (ps : List Rg) (a b : Int) : List Rg := mrg (growP ps a b)
/-- ranges of times -/
def Day (ps : List Rg) : Prop := ∀ p ∈ ps, 0 ≤ p.1 ∧ p.2 ≤ 9999
theorem neat_len : ∀ {ps : List Rg} (lo : Int), Neat ps → (∀ p ∈ ps, lo ≤ p.1 ∧ p.2 ≤ 9999) → lo ≤ 10001 → 2 * (ps.length : Int) ≤ 10001 - lo
  | [], lo, _, _, h => by simp; omega
  | p :: ps, lo, hn, hd, h => by
    obtain ⟨g1, g2⟩ := List.pairwise_cons.mp hn.gap
    have h1 := hn.ne p (by simp)
    have h2 := hd p (by simp)
    have ih := neat_len (ps := ps) (p.2 + 2) ⟨g2, fun q hq => hn.ne q (by simp [hq])⟩ (fun q hq => ⟨by have := g1 q hq; omega, (hd q (by simp [hq])).2⟩) (by omega)
    simp only [List.length_cons]
    omega
theorem Day.len {ps : List Rg} (h : Day ps) (n : Neat ps) : ps.length ≤ 5001 := by
  have := neat_len 0 n h (by decide)
  omega
theorem grow_spec {ps : List Rg} {a b : Int} (hd : Day ps) (hn : Neat ps) (ha : 0 ≤ a) (hab : a ≤ b) :
    Neat (grow ps a b) ∧ Day (grow ps a b) ∧ ∀ t, inR (grow ps a b) t ↔ t ≤ 9999 ∧ ∃ s, inR ps s ∧ s + a ≤ t ∧ t ≤ s + b := by
  obtain ⟨h1, h2⟩ := mrg_spec (ps := growP ps a b) fun p hp => of_decide_eq_true (List.mem_filter.mp hp).2
  have key : ∀ t, inR (growP ps a b) t ↔ t ≤ 9999 ∧ ∃ s, inR ps s ∧ s + a ≤ t ∧ t ≤ s + b := fun t => by
    constructor
    · rintro ⟨q, hq, q1, q2⟩
      obtain ⟨p, hp, rfl⟩ := List.mem_map.mp (List.mem_filter.mp hq).1
      have hne := hn.ne p hp
      have m := m9_le (p.2 + b)
      simp only at q1 q2
      refine ⟨by omega, ?_⟩
      by_cases c : p.1 + b < t
      · exact ⟨t - b, ⟨p, hp, by omega, by omega⟩, by omega, by omega⟩
      · exact ⟨p.1, ⟨p, hp, by omega, by omega⟩, by omega, by omega⟩
    · rintro ⟨t1, s, ⟨p, hp, p1, p2⟩, s1, s2⟩
      have m := m9_le (p.2 + b)
      refine ⟨(p.1 + a, m9 (p.2 + b)), List.mem_filter.mpr ⟨List.mem_map.mpr ⟨p, hp, rfl⟩, decide_eq_true ?_⟩, ?_, ?_⟩ <;> simp only <;> omega
  refine ⟨h1, fun p hp => ?_, fun t => (h2 t).trans (key t)⟩
  have hne := h1.ne p hp
  obtain ⟨a1, s, ⟨p', hp', a2, a3⟩, a4, a5⟩ := (key _).mp ((h2 _).mp ⟨p, hp, Int.le_refl _, hne⟩)
  obtain ⟨b1, _⟩ := (key _).mp ((h2 _).mp ⟨p, hp, hne, Int.le_refl _⟩)
  have := hd p' hp'
  omega
theorem growP_len (ps : List Rg) (a b : Int) : (growP ps a b).length ≤ ps.length := by
  have := filter_len (fun p : Rg => decide (p.1 ≤ p.2)) (ps.map fun p => (p.1 + a, m9 (p.2 + b)))
  unfold growP
  simpa using this
theorem s_grown (hk : 2 ≤ k) {ps : List Rg} (h : ps.length ≤ 1000000) (a b : Int) : phi (U X) k 60 [eGs ps, .int a, .int b] = ret (eGs (grow ps a b)) := at_def rfl (by omega) (by
  have z := s_merged (X := X) (k := k - 1) (ps := growP ps a b) (by omega) (Nat.le_trans (growP_len ps a b) h)
  have e : (growP ps a b).map eG = List.map (fun x => D.tup [D.int (x.1 + a), D.int (if 9999 < x.2 + b then 9999 else x.2 + b)]) (List.filter (fun x => decide (x.1 + a ≤ if 9999 < x.2 + b then 9999 else x.2 + b)) ps) := by
    unfold growP
    rw [List.filter_map, List.map_map]
    rfl
  unfold eGs at z
  rw [e] at z
  simp -implicitDefEqProofs [f_grown, b_grown, z, grow])
def commP (ps qs : List Rg) : List Rg := (ps.flatMap fun p => qs.map fun q => (if p.1 < q.1 then q.1 else p.1, if q.2 < p.2 then q.2 else p.2)).filter fun p => decide (p.1 ≤ p.2)
def comm (ps qs : List Rg) : List Rg := mrg (commP ps qs)
theorem comm_spec {ps qs : List Rg} (hd : Day ps) : Neat (comm ps qs) ∧ Day (comm ps qs) ∧ ∀ t, inR (comm ps qs) t ↔ inR ps t ∧ inR qs t := by
  obtain ⟨h1, h2⟩ := mrg_spec (ps := commP ps qs) fun p hp => of_decide_eq_true (List.mem_filter.mp hp).2
  have key : ∀ t, inR (commP ps qs) t ↔ inR ps t ∧ inR qs t := fun t => by
    constructor
    · rintro ⟨x, hx, x1, x2⟩
      obtain ⟨p, hp, hx'⟩ := List.mem_flatMap.mp (List.mem_filter.mp hx).1
      obtain ⟨q, hq, rfl⟩ := List.mem_map.mp hx'
      simp only at x1 x2
      split at x1 <;> split at x2 <;> exact ⟨⟨p, hp, by omega, by omega⟩, ⟨q, hq, by omega, by omega⟩⟩
    · rintro ⟨⟨p, hp, p1, p2⟩, ⟨q, hq, q1, q2⟩⟩
      refine ⟨_, List.mem_filter.mpr ⟨List.mem_flatMap.mpr ⟨p, hp, List.mem_map.mpr ⟨q, hq, rfl⟩⟩, decide_eq_true ?_⟩, ?_, ?_⟩ <;> simp only <;> (repeat' split) <;> omega
  refine ⟨h1, fun p hp => ?_, fun t => (h2 t).trans (key t)⟩
  have hne := h1.ne p hp
  obtain ⟨⟨a, ha, a1, a2⟩, _⟩ := (key _).mp ((h2 _).mp ⟨p, hp, Int.le_refl _, hne⟩)
  obtain ⟨⟨b, hb, b1, b2⟩, _⟩ := (key _).mp ((h2 _).mp ⟨p, hp, hne, Int.le_refl _⟩)
  have := hd a ha
  have := hd b hb
  omega
def crs (ps qs : List Rg) : List Rg := ps.flatMap fun p => qs.map fun q => (if p.1 < q.1 then q.1 else p.1, if q.2 < p.2 then q.2 else p.2)
theorem crs_len : ∀ (ps qs : List Rg), (crs ps qs).length = ps.length * qs.length
  | [], qs => by simp [crs]
  | p :: ps, qs => by
    have ih := crs_len ps qs
    unfold crs at ih ⊢
    rw [List.flatMap_cons, List.length_append, ih, List.length_map, List.length_cons, Nat.succ_mul, Nat.add_comm]
theorem s_common (hk : 2 ≤ k) {ps qs : List Rg} (h1 : ps.length ≤ 5001) (h2 : qs.length ≤ 100) : phi (U X) k 59 [eGs ps, eGs qs] = ret (eGs (comm ps qs)) := at_def rfl (by omega) (by
  have hc : (commP ps qs).length ≤ 1000000 := by
    have e : commP ps qs = (crs ps qs).filter fun p => decide (p.1 ≤ p.2) := rfl
    rw [e]
    refine Nat.le_trans (filter_len _ _) ?_
    rw [crs_len]
    exact Nat.le_trans (Nat.mul_le_mul h1 h2) (by decide)
  have z := s_merged (X := X) (k := k - 1) (ps := commP ps qs) (by omega) hc
  obtain ⟨r', e1, s3, s4, s5, s6, rfl⟩ := fo_invJ (L := Lk' X (k - 1)) (s := l0_common) (xs := ps) (e := eG) (r0 := [.v (eGs ps), .v (eGs qs), .o [], .none, .none, .none, .none]) rfl (by simp -implicitDefEqProofs [])
    (fun pre r => ∃ s3 s4 s5 s6, r = [.v (eGs ps), .v (eGs qs), .o ((crs pre qs).map eG), s3, s4, s5, s6]) ⟨_, _, _, _, rfl⟩ (by
      rintro pre p post r e ⟨s3, s4, s5, s6, rfl⟩ J hJ
      have hl : pre.length < ps.length := by rw [e]; simp
      have hb : (crs pre qs).length + qs.length ≤ LIM := by
        rw [crs_len]
        have := Nat.mul_le_mul (show pre.length ≤ 5001 by omega) h2
        show _ ≤ 16777216
        omega
      have ea : crs (pre ++ [p]) qs = crs pre qs ++ qs.map fun q => (if p.1 < q.1 then q.1 else p.1, if q.2 < p.2 then q.2 else p.2) := by simp [crs]
      rw [ea] at hJ
      simp -implicitDefEqProofs [l0b_common, hb]
      exact goes (hJ _ ⟨_, _, _, _, by rw [List.map_append, List.map_map]; rfl⟩))
  have ec : (commP ps qs).map eG = List.map eG (List.filter (fun x => decide (x.1 ≤ x.2)) (crs ps qs)) := rfl
  unfold eGs at z
  rw [ec] at z
  simp -implicitDefEqProofs [f_common, b_common, e1, z, comm])
end Lw
end
section
/-! logs -/
namespace Lw
open Py
variable {X : List Fd} {k : Nat}
/-- a valid log -/
structure Lg (l : List Rd) : Prop where
  n1 : 1 ≤ l.length
  n6 : l.length ≤ 6
  vr : ∀ r ∈ l, VR r.2
  six : ∀ r ∈ l, r.2.length ≤ 6
  mom : ∀ r ∈ l, 0 ≤ r.1 ∧ r.1 ≤ 999
  asc : l.Pairwise fun a b => a.1 < b.1
  same : ∀ r ∈ l, ∀ s ∈ l, r.2.map (·.nm) = s.2.map (·.nm)
def isMom : D → Bool
  | .int i => decide (0 ≤ i) && decide (i ≤ 999)
  | _ => false
theorem s_is_moment (hk : 2 ≤ k) {d : D} (h : okD d = true) : phi (U X) k 61 [d] = ret (.bl (isMom d)) := at_def rfl (by omega) (by
  have z := s_is_integer (X := X) (k := k - 1) (by omega) h
  cases d <;> first | (cases h; done) | simp -implicitDefEqProofs [f_is_moment, b_is_moment, z, isInt, isMom])
theorem zip_pw {α : Type} {R : α → α → Prop} : ∀ {l : List α}, l.Pairwise R → ∀ p ∈ l.zip (tl l), R p.1 p.2
  | [], _, p, hp => by simp at hp
  | [a], _, p, hp => by simp at hp
  | a :: b :: l, h, p, hp => by
    obtain ⟨h1, h2⟩ := List.pairwise_cons.mp h
    simp only [tl_cons, List.zip_cons_cons, List.mem_cons] at hp
    rcases hp with rfl | hp
    · exact h1 b (by simp)
    · exact zip_pw h2 p (by simpa using hp)
theorem s_is_round_ok (hk : 5 ≤ k) {r : Rd} (h1 : VR r.2) (h2 : r.2.length ≤ 6) (h3 : 0 ≤ r.1 ∧ r.1 ≤ 999) : phi (U X) k 62 [eD r] = ret (.bl true) := at_def rfl (by omega) (by
  have z1 := s_is_moment (X := X) (k := k - 1) (by omega) (d := .int r.1) rfl
  have z2 := s_are_reports (X := X) (k := k - 1) (by omega) h1.pl
  rw [h1.are] at z2
  have h2' : (r.2.length : Int) ≤ 6 := by omega
  simp -implicitDefEqProofs [f_is_round, b_is_round, z1, z2, eD, ixN, h3, h2, h2', isTy, isMom])
@[simp] theorem sub_eD0 (r : Rd) : subD (eD r) (.int 0) = some (.int r.1) := by simp [eD, ixN]
@[simp] theorem sub_eD1 (r : Rd) : subD (eD r) (.int 1) = some (eRs r.2) := by simp [eD, ixN]
theorem Lg.head {l : List Rd} (h : Lg l) : ∃ r0 rest, l = r0 :: rest := by
  cases l with
  | nil => have := h.n1; simp at this
  | cons a b => exact ⟨a, b, rfl⟩
theorem sub_h0 {r0 : Rd} {rest l : List Rd} (h : l = r0 :: rest) : subD (.tup (l.map eD)) (.int 0) = some (eD r0) := by
  subst h; simp [ixN]
theorem sub_h0l {r0 : Rd} {rest l : List Rd} (h : l = r0 :: rest) : subD (.lst (l.map eD)) (.int 0) = some (eD r0) := by
  subst h; simp
theorem shp_names (rs : List Rp) : ((rs.map (·.nm)).map D.str).all (shp 7) = true := by simp
theorem eqL_N (a b : List Rp) : eqL (a.map fun x => D.str x.nm) (b.map fun x => D.str x.nm) = decide (a.map (·.nm) = b.map (·.nm)) := by
  have z := eqL_S (a.map (·.nm)) (b.map (·.nm))
  rw [List.map_map, List.map_map] at z
  exact z
theorem s_is_log_ok (hk : 6 ≤ k) {l : List Rd} (h : Lg l) : phi (U X) k 63 [eLg l] = ret (.bl true) := at_def rfl (by omega) (by
  obtain ⟨r0, rest, e0⟩ := h.head
  have n1 := h.n1
  have n6 := h.n6
  have z1 : compM l (fun x => noexc (bnd (phi (U X) (k - 1) 62 [eD x]) fun y => ret (some y))) = ret (l.map fun _ => D.bl true) :=
    compM_ok fun r hr => by rw [s_is_round_ok (by omega) (h.vr r hr) (h.six r hr) (h.mom r hr)]; simp
  have z2 := fun rs => s_sources (X := X) (k := k - 1) (by omega) rs
  have hs := sub_h0 e0
  have g1 : ¬ ((l.length : Int) < 1 ∨ (6 : Int) < l.length) := by omega
  have g2 : l.length ≤ LIM := by show _ ≤ 16777216; omega
  have a1 : ((l.zip (tl l)).all fun p => decide (p.1.1 < p.2.1)) = true := by
    rw [List.all_eq_true]
    exact fun p hp => decide_eq_true (zip_pw h.asc p hp)
  have a2 : (l.all fun x => decide (x.2.map (·.nm) = r0.2.map (·.nm))) = true := by
    rw [List.all_eq_true]
    exact fun x hx => decide_eq_true (h.same x hx r0 (by rw [e0]; simp))
  simp -implicitDefEqProofs [f_is_log, b_is_log, isTy, -sub_t, hs, z1, z2, g1, g2, a1, a2, eqL_N])
abbrev Pc := Int × Int
abbrev eP (p : Pc) : D := .tup [.int p.1, .int p.2]
def PcOk (p : Pc) : Prop := 0 ≤ p.1 ∧ p.1 ≤ p.2 ∧ p.2 ≤ 9
theorem all_tt2 : bltD .all [.lst [.bl true, .bl true]] = some (.bl true) := by rw [bltD, allD]; simp [toBls]
theorem s_check_pace (hk : 2 ≤ k) {p : Pc} (h : PcOk p) : phi (U X) k 64 [eP p] = ret .non := at_def rfl (by omega) (by
  have z1 := fun i : Int => s_is_integer (X := X) (k := k - 1) (d := .int i) (by omega) rfl
  obtain ⟨h1, h2, h3⟩ := h
  simp -implicitDefEqProofs [f_check_pace, b_check_pace, z1, isTy, isInt, compM_cons, ixN, all_tt2, h1, h2, h3])
theorem s_check_log (hk : 7 ≤ k) {l : List Rd} (h : Lg l) {p : Pc} (hp : PcOk p) {f : Int} (h0 : 0 ≤ f) (h1 : f ≤ 10) : phi (U X) k 66 [eLg l, eP p, .int f] = ret .non := at_def rfl (by omega) (by
  have z1 := s_is_log_ok (X := X) (k := k - 1) (by omega) h
  have z2 := s_check_pace (X := X) (k := k - 1) (by omega) hp
  have z3 := li_ok (X := X) (k := k - 1) (by omega) h0 h1
  simp -implicitDefEqProofs [f_check_log, b_check_log, z1, z2, z3])
/-! led through -/
def lstep (p : Pc) (f : Int) (s : Int × List Rg) (r : Rd) : Int × List Rg := (r.1, comm (grow s.2 (p.1 * (r.1 - s.1)) (p.2 * (r.1 - s.1))) (poss r.2 f))
def ledS (p : Pc) (f : Int) (r0 : Rd) (pre : List Rd) : Int × List Rg := pre.foldl (lstep p f) (r0.1, poss r0.2 f)
/-- rounds that can be led through -/
structure Ld (r0 : Rd) (rest : List Rd) : Prop where
  tr : ∀ r ∈ r0 :: rest, TR r.2
  len : ∀ r ∈ r0 :: rest, r.2.length ≤ 10
  asc : (r0 :: rest).Pairwise fun a b => a.1 < b.1
theorem poss_day {rs : List Rp} (h : TR rs) (f : Int) : Neat (poss rs f) ∧ Day (poss rs f) := by
  obtain ⟨a, b⟩ := withM_spec h (rs.length - f)
  refine ⟨a, fun p hp => ?_⟩
  have := a.ne p hp
  have c := (b p.1).mp ⟨p, hp, Int.le_refl _, this⟩
  have d := (b p.2).mp ⟨p, hp, this, Int.le_refl _⟩
  omega
theorem ledS_snoc (p : Pc) (f : Int) (r0 : Rd) (pre : List Rd) (r : Rd) : ledS p f r0 (pre ++ [r]) = lstep p f (ledS p f r0 pre) r := by simp [ledS]
theorem lstep_ok {p : Pc} (hp : PcOk p) {f : Int} {s : Int × List Rg} {r : Rd} (h1 : Neat s.2) (h2 : Day s.2) (hlt : s.1 < r.1) (ht : TR r.2) :
    Neat (lstep p f s r).2 ∧ Day (lstep p f s r).2 ∧ ∀ t, inR (lstep p f s r).2 t ↔ (t ≤ 9999 ∧ ∃ u, inR s.2 u ∧ u + p.1 * (r.1 - s.1) ≤ t ∧ t ≤ u + p.2 * (r.1 - s.1)) ∧ (0 ≤ t ∧ t ≤ 9999 ∧ (r.2.length : Int) - f ≤ cnt r.2 t) := by
  have a : 0 ≤ p.1 * (r.1 - s.1) := Int.mul_nonneg hp.1 (by omega)
  have b : p.1 * (r.1 - s.1) ≤ p.2 * (r.1 - s.1) := Int.mul_le_mul_of_nonneg_right hp.2.1 (by omega)
  obtain ⟨g1, g2, g3⟩ := grow_spec h2 h1 a b
  obtain ⟨c1, c2, c3⟩ := comm_spec (qs := poss r.2 f) g2
  refine ⟨c1, c2, fun t => (c3 t).trans ?_⟩
  rw [g3 t, (withM_spec ht _).2 t]
theorem ledS_ok {p : Pc} (hp : PcOk p) {f : Int} {r0 : Rd} {rest pre post : List Rd} (h : Ld r0 rest) (e : rest = pre ++ post) :
    Neat (ledS p f r0 pre).2 ∧ Day (ledS p f r0 pre).2 ∧ (ledS p f r0 pre).1 ∈ (r0 :: pre).map (·.1) := by
  suffices H : ∀ (n : Nat) (post pre : List Rd), pre.length = n → rest = pre ++ post → Neat (ledS p f r0 pre).2 ∧ Day (ledS p f r0 pre).2 ∧ (ledS p f r0 pre).1 ∈ (r0 :: pre).map (·.1) from H pre.length post pre rfl e
  intro n
  induction n with
  | zero =>
    intro post pre en e
    obtain ⟨a, b⟩ := poss_day (h.tr r0 (by simp)) f
    rw [List.length_eq_zero_iff.mp en]
    exact ⟨a, b, by simp [ledS]⟩
  | succ n ih =>
    intro post pre' en e
    rcases snoc_cases pre' with rfl | ⟨pre, r, rfl⟩
    · simp at en
    obtain ⟨a, b, c⟩ := ih (r :: post) pre (by simpa using en) (by rw [e]; simp)
    rw [ledS_snoc]
    have hr : r ∈ r0 :: rest := by rw [e]; simp
    have hlt : (ledS p f r0 pre).1 < r.1 := by
      obtain ⟨x, hx, ex⟩ := List.mem_map.mp c
      rw [← ex]
      have hp := h.asc
      rw [e, show r0 :: (pre ++ [r] ++ post) = (r0 :: pre) ++ (r :: post) by simp, List.pairwise_append] at hp
      exact hp.2.2 x hx r (by simp)
    obtain ⟨q1, q2, _⟩ := lstep_ok hp (f := f) a b hlt (h.tr r hr)
    exact ⟨q1, q2, by simp [lstep]⟩
theorem ledS_lt {p : Pc} (hp : PcOk p) {f : Int} {r0 : Rd} {rest pre post : List Rd} {r : Rd} (h : Ld r0 rest) (e : rest = pre ++ r :: post) : (ledS p f r0 pre).1 < r.1 := by
  obtain ⟨x, hx, ex⟩ := List.mem_map.mp (ledS_ok hp (f := f) h e).2.2
  rw [← ex]
  have hp := h.asc
  rw [e, show r0 :: (pre ++ r :: post) = (r0 :: pre) ++ (r :: post) by simp, List.pairwise_append] at hp
  exact hp.2.2 x hx r (by simp)
theorem slL_t' {r0 : Rd} {rest : List Rd} : slcD (.tup ((r0 :: rest).map eD)) (some 1) none = some (.tup (rest.map eD)) := by
  have := slL_t eD (r0 :: rest)
  simpa using this
theorem slL_l' {r0 : Rd} {rest : List Rd} : slcD (.lst ((r0 :: rest).map eD)) (some 1) none = some (.lst (rest.map eD)) := by
  have := slL_l eD (r0 :: rest)
  simpa using this
theorem s_led (hk : 5 ≤ k) {p : Pc} (hp : PcOk p) {f : Int} {r0 : Rd} {rest : List Rd} (h : Ld r0 rest) {d : D} (hd : d = .tup ((r0 :: rest).map eD) ∨ d = .lst ((r0 :: rest).map eD)) : phi (U X) k 67 [d, eP p, .int f] = ret (eGs (ledS p f r0 rest).2) := at_def rfl (by omega) (by
  have z1 := s_possible_times (X := X) (k := k - 1) (by omega) (Nat.le_trans (h.len r0 (by simp)) (by decide)) f
  have hs : subD d (.int 0) = some (eD r0) := by
    rcases hd with rfl | rfl
    · exact sub_h0 rfl
    · exact sub_h0l rfl
  have hl : ∃ e, slcD d (some 1) none = some e ∧ itD e = some (rest.map eD) := by
    rcases hd with rfl | rfl
    · exact ⟨_, slL_t', it_tup _⟩
    · exact ⟨_, slL_l', it_lst _⟩
  obtain ⟨d', hl1, hl2⟩ := hl
  obtain ⟨r', e1, s5, s6, s7, rfl⟩ := fo_invJ (L := Lk' X (k - 1)) (s := l0_led_through) (xs := rest) (e := eD) (r0 := [.v d, .v (eP p), .v (.int f), .v (.int r0.1), .v (eGs (poss r0.2 f)), .none, .none, .none]) rfl (by simp -implicitDefEqProofs [hl1, hl2])
    (fun pre r => ∃ s5 s6 s7, r = [.v d, .v (eP p), .v (.int f), .v (.int (ledS p f r0 pre).1), .v (eGs (ledS p f r0 pre).2), s5, s6, s7]) ⟨_, _, _, rfl⟩ (by
      rintro pre r post r' e ⟨s5, s6, s7, rfl⟩ J hJ
      obtain ⟨a, b, c⟩ := ledS_ok hp (f := f) h e
      rw [ledS_snoc] at hJ
      have hr : r ∈ r0 :: rest := by rw [e]; simp
      have z2 := s_possible_times (X := X) (k := k - 1) (by omega) (Nat.le_trans (h.len r hr) (by decide)) f
      have hlt := ledS_lt hp (f := f) h e
      generalize ledS p f r0 pre = s at *
      have z3 := s_grown (X := X) (k := k - 1) (by omega) (Nat.le_trans (b.len a) (by decide)) (p.1 * (r.1 - s.1)) (p.2 * (r.1 - s.1))
      have a0 : 0 ≤ p.1 * (r.1 - s.1) := Int.mul_nonneg hp.1 (by omega)
      have b0 : p.1 * (r.1 - s.1) ≤ p.2 * (r.1 - s.1) := Int.mul_le_mul_of_nonneg_right hp.2.1 (by omega)
      obtain ⟨g1, g2, _⟩ := grow_spec b a a0 b0
      have z4 := s_common (X := X) (k := k - 1) (qs := poss r.2 f) (by omega) (g2.len g1) (by show (withM r.2 (r.2.length - f)).length ≤ 100; have := withM_len r.2 (r.2.length - f); have := h.len r hr; omega)
      have q1 := small_of (i := p.1) (by have := hp.1; omega) (by have := hp.2; omega)
      have q2 := small_of (i := p.2) (by have := hp.1; have := hp.2; omega) (by have := hp.2; omega)
      simp -implicitDefEqProofs [l0b_led_through, z2, z3, z4, q1, q2, eD, ixN]
      exact goes (hJ _ ⟨_, _, _, rfl⟩))
  simp -implicitDefEqProofs [f_led_through, b_led_through, -sub_t, hs, z1, e1])
theorem Lg.ld {r0 : Rd} {rest : List Rd} (h : Lg (r0 :: rest)) : Ld r0 rest := ⟨fun r hr => (h.vr r hr).tr, fun r hr => (h.vr r hr).len, h.asc⟩
theorem s_followed (hk : 8 ≤ k) {p : Pc} (hp : PcOk p) {f : Int} (h0 : 0 ≤ f) (h1 : f ≤ 10) {r0 : Rd} {rest : List Rd} (h : Lg (r0 :: rest)) : phi (U X) k 68 [eLg (r0 :: rest), eP p, .int f] = ret (eGs (ledS p f r0 rest).2) := at_def rfl (by omega) (by
  have z1 := s_check_log (X := X) (k := k - 1) (by omega) h hp h0 h1
  have z2 := s_led (X := X) (k := k - 1) (by omega) hp (f := f) h.ld (.inl rfl)
  unfold eLg at *
  generalize (r0 :: rest).map eD = l at *
  simp -implicitDefEqProofs [f_followed, b_followed, z1, z2])
end Lw
end
section
/-! drawn logs -/
namespace Lw
open Py
variable {X : List Fd} {k : Nat}
def lpace (ns : List Int) (place : Int) : Pc := (pick ns place 3, pick ns place 3 + pick ns (place + 1) 3)
theorem lpace_ok (ns : List Int) (place : Int) : PcOk (lpace ns place) ∧ (lpace ns place).2 ≤ 4 := by
  have h1 := pick_rng (ns := ns) (i := place) (m := 3) (by decide)
  have h2 := pick_rng (ns := ns) (i := place + 1) (m := 3) (by decide)
  unfold PcOk lpace
  simp only
  omega
theorem s_pace (hk : 2 ≤ k) {ns : List Int} (hl : ns.length ≤ 63) {place : Int} (h0 : 0 ≤ place) (h1 : place < 9000) : phi (U X) k 74 [eScr ns, .int place] = ret (eP (lpace ns place)) := at_def rfl (by omega) (by
  have hp : ∀ {i m : Int}, 0 ≤ i → i < 99999 → 0 < m → phi (U X) (k - 1) 15 [eScr ns, .int i, .int m] = ret (.int (pick ns i m)) := fun a b c => s_pick (by omega) hl a b c
  have z1 := hp (i := place) (m := 3) (by omega) (by omega) (by decide)
  have z2 := hp (i := place + 1) (m := 3) (by omega) (by omega) (by decide)
  simp -implicitDefEqProofs [f__law_pace, b__law_pace, z1, z2, lpace])
def neatB (ps : List Rg) : Bool := (ps.all fun p => decide (0 ≤ p.1) && (decide (p.1 ≤ p.2) && decide (p.2 ≤ 9999))) && (ps.zip (tl ps)).all fun x => decide (x.1.2 + 1 < x.2.1)
theorem s_neat (hk : 1 ≤ k) {ps : List Rg} (h : ps.length ≤ 1000000) : phi (U X) k 75 [eGs ps] = ret (.bl (neatB ps)) := at_def rfl (by omega) (by
  have g : ps.length ≤ LIM := by show _ ≤ 16777216; omega
  by_cases c : (ps.all fun p => decide (0 ≤ p.1) && (decide (p.1 ≤ p.2) && decide (p.2 ≤ 9999))) = true
  · simp -implicitDefEqProofs [f__law_neat, b__law_neat, c, g, neatB, ixN]
  · have c' := Bool.eq_false_iff.mpr c
    simp -implicitDefEqProofs [f__law_neat, b__law_neat, c', g, neatB, ixN])
theorem neat_true {ps : List Rg} (n : Neat ps) (d : Day ps) : neatB ps = true := by
  unfold neatB
  rw [Bool.and_eq_true, List.all_eq_true, List.all_eq_true]
  refine ⟨fun p hp => ?_, fun x hx => decide_eq_true (zip_pw n.gap x hx)⟩
  have := n.ne p hp
  have := d p hp
  simp only [Bool.and_eq_true, decide_eq_true_eq]
  omega
/-! the log -/
def llow (ns : List Int) (at' begun : Int) : Int := if begun - pick ns at' 7 + pick ns (at' + 1) 3 < 0 then 0 else begun - pick ns at' 7 + pick ns (at' + 1) 3
def lrow (ns : List Int) (at' begun : Int) (j : Nat) : Rp := ⟨[97 + j], llow ns (at' + 4 * (j : Int)) begun, llow ns (at' + 4 * (j : Int)) begun + pick ns (at' + 4 * (j : Int) + 2) 9⟩
def lmb (ns : List Int) (place : Int) : Nat → Int × Int
  | 0 => (pick ns (place + 2) 3, 6 + pick ns (place + 3) 5)
  | i + 1 => ((lmb ns place i).1 + (1 + pick ns (place + 5 + (i : Int)) 3), (lmb ns place i).2 + (1 + pick ns (place + 5 + (i : Int)) 3))
def lround (ns : List Int) (place : Int) (i : Nat) : Rd := ((lmb ns place i).1, (List.range (pick ns place 5).toNat).map (lrow ns (place + 10 + 20 * (i : Int)) (lmb ns place i).2))
def llog (ns : List Int) (place : Int) : List Rd := (List.range (1 + pick ns (place + 1) 4).toNat).map (lround ns place)
theorem lmb_rng (ns : List Int) (place : Int) : ∀ i : Nat, (i : Int) ≤ (lmb ns place i).1 ∧ (lmb ns place i).1 ≤ 2 + 3 * i ∧ 6 ≤ (lmb ns place i).2 ∧ (lmb ns place i).2 ≤ 10 + 3 * i
  | 0 => by
    have h1 := pick_rng (ns := ns) (i := place + 2) (m := 3) (by decide)
    have h2 := pick_rng (ns := ns) (i := place + 3) (m := 5) (by decide)
    simp only [lmb]
    omega
  | i + 1 => by
    have ih := lmb_rng ns place i
    have h1 := pick_rng (ns := ns) (i := place + 5 + (i : Int)) (m := 3) (by decide)
    simp only [lmb]
    omega
theorem lmb_lt (ns : List Int) (place : Int) (i : Nat) : ∀ j, i < j → (lmb ns place i).1 < (lmb ns place j).1
  | 0, h => by omega
  | j + 1, h => by
    have h1 := pick_rng (ns := ns) (i := place + 5 + (j : Int)) (m := 3) (by decide)
    by_cases e : i = j
    · subst e
      simp only [lmb]
      omega
    · have := lmb_lt ns place i j (by omega)
      simp only [lmb]
      omega
theorem rows_vr {g : Nat → Rp} {n : Nat} (hn : n ≤ 10) (h1 : ∀ j, (g j).nm = [97 + j]) (h2 : ∀ j, j < n → 0 ≤ (g j).lo ∧ (g j).lo ≤ (g j).hi ∧ (g j).hi ≤ 9999) : VR ((List.range n).map g) := by
  refine .mk' (by simpa using hn) (fun r hr => ?_) ?_
  · obtain ⟨j, hj, rfl⟩ := List.mem_map.mp hr
    have hj' : j < n := by simpa using hj
    have := h2 j hj'
    simp only [repB, h1, nm_ok (show j < 10 by omega), Bool.true_and, Bool.and_eq_true, decide_eq_true_eq]
    omega
  · rw [List.pairwise_map]
    refine List.pairwise_lt_range.imp fun {a b} h => ?_
    rw [h1, h1, txLt_one]
    exact decide_eq_true (by omega)
theorem lrow_ok (ns : List Int) {at' begun : Int} (h0 : 0 ≤ begun) (h1 : begun ≤ 1000) (j : Nat) : 0 ≤ (lrow ns at' begun j).lo ∧ (lrow ns at' begun j).lo ≤ (lrow ns at' begun j).hi ∧ (lrow ns at' begun j).hi ≤ 9999 := by
  have p1 := pick_rng (ns := ns) (i := at' + 4 * (j : Int)) (m := 7) (by decide)
  have p2 := pick_rng (ns := ns) (i := at' + 4 * (j : Int) + 1) (m := 3) (by decide)
  have p3 := pick_rng (ns := ns) (i := at' + 4 * (j : Int) + 2) (m := 9) (by decide)
  simp only [lrow, llow]
  split <;> omega
theorem lround_vr (ns : List Int) (place : Int) {i : Nat} (hi : i < 10) : VR (lround ns place i).2 := by
  have p := pick_rng (ns := ns) (i := place) (m := 5) (by decide)
  have m := lmb_rng ns place i
  exact rows_vr (by omega) (fun j => rfl) fun j _ => lrow_ok ns (by omega) (by omega) j
theorem llog_ok (ns : List Int) (place : Int) : Lg (llog ns place) ∧ (llog ns place).length ≤ 4 ∧ ∀ r ∈ llog ns place, r.2.length ≤ 4 := by
  have p := pick_rng (ns := ns) (i := place + 1) (m := 4) (by decide)
  have p5 := pick_rng (ns := ns) (i := place) (m := 5) (by decide)
  have key : ∀ r ∈ llog ns place, ∃ i, i < 4 ∧ r = lround ns place i := fun r hr => by
    obtain ⟨i, hi, rfl⟩ := List.mem_map.mp hr
    have : i < (1 + pick ns (place + 1) 4).toNat := by simpa using hi
    exact ⟨i, by omega, rfl⟩
  have h4 : ∀ r ∈ llog ns place, r.2.length ≤ 4 := fun r hr => by
    obtain ⟨i, hi, rfl⟩ := key r hr
    simp [lround]
    omega
  refine ⟨⟨by simp [llog]; omega, by simp [llog]; omega, fun r hr => ?_, fun r hr => by have := h4 r hr; omega, fun r hr => ?_, ?_, fun r hr s hs => ?_⟩, by simp [llog]; omega, h4⟩
  · obtain ⟨i, hi, rfl⟩ := key r hr
    exact lround_vr ns place (by omega)
  · obtain ⟨i, hi, rfl⟩ := key r hr
    have m := lmb_rng ns place i
    simp only [lround]
    omega
  · unfold llog
    rw [List.pairwise_map]
    exact List.pairwise_lt_range.imp fun {a b} h => lmb_lt ns place a b h
  · obtain ⟨i, hi, rfl⟩ := key r hr
    obtain ⟨j, hj, rfl⟩ := key s hs
    simp only [lround, List.map_map]
    rfl
theorem sub_abcde {i : Nat} (h : i < 5) : subD (.str [97, 98, 99, 100, 101]) (.int i) = some (.str [97 + i]) := by
  have : i = 0 ∨ i = 1 ∨ i = 2 ∨ i = 3 ∨ i = 4 := by omega
  rcases this with rfl | rfl | rfl | rfl | rfl <;> rfl
theorem s_log (hk : 2 ≤ k) {ns : List Int} (hl : ns.length ≤ 63) {place : Int} (h0 : 0 ≤ place) (h1 : place < 9000) : phi (U X) k 73 [eScr ns, .int place] = ret (eLg (llog ns place)) := at_def rfl (by omega) (by
  have hp : ∀ {i m : Int}, 0 ≤ i → i < 99999 → 0 < m → phi (U X) (k - 1) 15 [eScr ns, .int i, .int m] = ret (.int (pick ns i m)) := fun a b c => s_pick (by omega) hl a b c
  have y1 := hp (i := place) (m := 5) (by omega) (by omega) (by decide)
  have y2 := hp (i := place + 1) (m := 4) (by omega) (by omega) (by decide)
  have y3 := hp (i := place + 2) (m := 3) (by omega) (by omega) (by decide)
  have y4 := hp (i := place + 3) (m := 5) (by omega) (by omega) (by decide)
  have p5 := pick_rng (ns := ns) (i := place) (m := 5) (by decide)
  have p4 := pick_rng (ns := ns) (i := place + 1) (m := 4) (by decide)
  have hr := rngOk
  have r5 : rngOk 0 (pick ns place 5) = true := by unfold rngOk; simp; omega
  have r4 : rngOk 0 (1 + pick ns (place + 1) 4) = true := by unfold rngOk; simp; omega
  have s20 : small 20 = true := by decide
  obtain ⟨r', e1, s2, s8, s9, s10, s11, s12, rfl⟩ := fo_invJ (L := Lk' X (k - 1)) (s := l0__law_log) (xs := List.range (1 + pick ns (place + 1) 4).toNat) (e := fun i : Nat => D.int (0 + i)) (r0 := [.v (eScr ns), .v (.int place), .none, .v (.int (pick ns place 5)), .v (.int (1 + pick ns (place + 1) 4)), .v (.int (lmb ns place 0).1), .v (.int (lmb ns place 0).2), .o [], .none, .none, .none, .none, .none]) rfl (by simp -implicitDefEqProofs [rngD, r4])
    (fun pre r => ∃ s2 s8 s9 s10 s11 s12, r = [.v (eScr ns), .v (.int place), s2, .v (.int (pick ns place 5)), .v (.int (1 + pick ns (place + 1) 4)), .v (.int (lmb ns place pre.length).1), .v (.int (lmb ns place pre.length).2), .o (pre.map fun i => eD (lround ns place i)), s8, s9, s10, s11, s12]) ⟨_, _, _, _, _, _, rfl⟩ (by
      rintro pre i post r e ⟨s2, s8, s9, s10, s11, s12, rfl⟩ J hJ
      obtain ⟨rfl, hi⟩ := range_at e
      have m := lmb_rng ns place pre.length
      obtain ⟨r2, e2, t9, t11, t12, rfl⟩ := fo_invJ (L := Lk' X (k - 1)) (s := l1__law_log) (xs := List.range (pick ns place 5).toNat) (e := fun i : Nat => D.int (0 + i)) (r0 := [.v (eScr ns), .v (.int place), .v (.int pre.length), .v (.int (pick ns place 5)), .v (.int (1 + pick ns (place + 1) 4)), .v (.int (lmb ns place pre.length).1), .v (.int (lmb ns place pre.length).2), .o (pre.map fun i => eD (lround ns place i)), .o [], s9, s10, s11, s12]) rfl (by simp -implicitDefEqProofs [rngD, r5])
        (fun pr r => ∃ t9 t11 t12, r = [.v (eScr ns), .v (.int place), .v (.int pre.length), .v (.int (pick ns place 5)), .v (.int (1 + pick ns (place + 1) 4)), .v (.int (lmb ns place pre.length).1), .v (.int (lmb ns place pre.length).2), .o (pre.map fun i => eD (lround ns place i)), .o (pr.map fun j => eR (lrow ns (place + 10 + 20 * (pre.length : Int)) (lmb ns place pre.length).2 j)), t9, s10, t11, t12]) ⟨_, _, _, rfl⟩ (by
          rintro pr j po r e' ⟨t9, t11, t12, rfl⟩ J' hJ'
          obtain ⟨rfl, hj⟩ := range_at e'
          have z1 := hp (i := place + 10 + 20 * (pre.length : Int) + 4 * (pr.length : Int)) (m := 7) (by omega) (by omega) (by decide)
          have z2 := hp (i := place + 10 + 20 * (pre.length : Int) + 4 * (pr.length : Int) + 1) (m := 3) (by omega) (by omega) (by decide)
          have z3 := hp (i := place + 10 + 20 * (pre.length : Int) + 4 * (pr.length : Int) + 2) (m := 9) (by omega) (by omega) (by decide)
          have q := sub_abcde (i := pr.length) (by omega)
          have hlp : pr.length < 16777216 := by omega
          simp -implicitDefEqProofs [l1b__law_log, z1, z2, z3, q, small4, s20, hlp]
          exact goes (hJ' _ ⟨_, _, _, by rw [List.map_append]; rfl⟩))
      have y5 := hp (i := place + 5 + (pre.length : Int)) (m := 3) (by omega) (by omega) (by decide)
      have hlp : pre.length < 16777216 := by omega
      simp -implicitDefEqProofs [l0b__law_log, e2, y5, hlp]
      have ej : eD (lround ns place pre.length) = D.tup [.int (lmb ns place pre.length).1, .tup ((List.range (pick ns place 5).toNat).map fun j => eR (lrow ns (place + 10 + 20 * (pre.length : Int)) (lmb ns place pre.length).2 j))] := by
        unfold lround eD eRs
        rw [List.map_map]
        rfl
      have ea : (pre ++ [pre.length]).map (fun i => eD (lround ns place i)) = pre.map (fun i => eD (lround ns place i)) ++ [D.tup [.int (lmb ns place pre.length).1, .tup ((List.range (pick ns place 5).toNat).map fun j => eR (lrow ns (place + 10 + 20 * (pre.length : Int)) (lmb ns place pre.length).2 j))]] := by
        rw [List.map_append, List.map_singleton, ej]
      have el2 : (pre ++ [pre.length]).length = pre.length + 1 := by simp
      rw [ea, el2] at hJ
      exact goes (hJ _ ⟨_, _, _, _, _, _, rfl⟩))
  have el : (llog ns place).map eD = (List.range (1 + pick ns (place + 1) 4).toNat).map fun i => eD (lround ns place i) := by unfold llog; rw [List.map_map]; rfl
  have q1 : pick ns (place + 2) 3 = (lmb ns place 0).1 := rfl
  have q2 : 6 + pick ns (place + 3) 5 = (lmb ns place 0).2 := rfl
  unfold eLg
  rw [el]
  rw [q1] at y3
  generalize lmb ns place 0 = m0 at *
  simp -implicitDefEqProofs [f__law_log, b__law_log, y1, y2, y3, y4, e1, q2])
end Lw
end
section
/-! time by time -/
namespace Lw
open Py
variable {X : List Fd} {k : Nat}
def keep (ns : List Tx) (r : Rd) : Rd := (r.1, r.2.filter fun x => decide (x.nm ∉ ns))
def canD (g : Nat → Bool) : D := .lst ((List.range 101).map fun i : Nat => .bl (g i))
theorem can_sub {g : Nat → Bool} {i : Nat} (h : i < 101) : subD (canD g) (.int i) = some (.bl (g i)) := by
  unfold canD
  rw [sub_l]
  have e : ixN ((List.range 101).map fun i : Nat => D.bl (g i)).length i = some i := by
    unfold ixN
    rw [if_pos (by omega), if_pos (by simp; omega)]
    simp
  rw [e]
  simp [h]
theorem any_nats (n : Nat) (xs : List Nat) : (xs.map fun i : Nat => D.int i).any (fun y => eqD y (.int n)) = decide (n ∈ xs) := by
  rw [List.any_map]
  simp only [compd, eqD_int]
  by_cases h : n ∈ xs
  · rw [decide_eq_true h, List.any_eq_true]
    exact ⟨n, h, by simp⟩
  · rw [decide_eq_false h, List.any_eq_false]
    intro x hx q
    have : (x : Int) = n := eq_of_beq q
    exact h (by rw [← (show x = n by omega)]; exact hx)
@[simp] theorem in_nats (n : Nat) (xs : List Nat) : inD (.int n) (.lst (xs.map fun i : Nat => .int i)) = some (decide (n ∈ xs)) := by
  rw [inD, any_nats]
  simp
theorem if_bl (c : Prop) [Decidable c] (d : Bool) : (if c then ret (some (D.bl d)) else ret (some (D.bl false)) : M (Option D)) = ret (some (.bl (decide c && d))) := by
  by_cases h : c <;> simp [h]
theorem s_rightL (hk : 1 ≤ k) {rs : List Rp} (h : rs.length ≤ 1000) (t : Int) : phi (U X) k 19 [.lst (rs.map eR), .int t] = ret (eNs (rnames rs t)) := at_def rfl (by omega) (by
  obtain ⟨r', h1, s3, s4, s5, rfl⟩ := fo_inv (L := Lk' X (k - 1)) (s := l0__law_right) (xs := rs) (e := eR) (r0 := [.v (.lst (rs.map eR)), .v (.int t), .o [], .none, .none, .none]) rfl (by simp)
    (fun pre r => ∃ s3 s4 s5, r = [.v (.lst (rs.map eR)), .v (.int t), .o ((rnames pre t).map .str), s3, s4, s5]) ⟨_, _, _, rfl⟩ (by
      rintro pre p post r e ⟨s3, s4, s5, rfl⟩
      have hl : cnt pre t < 16777216 := by
        have h1 := congrArg List.length e
        have h2 : cnt pre t ≤ pre.length := filter_len _ _
        simp at h1
        omega
      by_cases c1 : p.lo ≤ t
      · by_cases c2 : t ≤ p.hi
        · have e2 : rnames (pre ++ [p]) t = rnames pre t ++ [p.nm] := by simp [rnames, rightB, c1, c2]
          simp -implicitDefEqProofs [l0b__law_right, c1, c2, hl, e2]
          exact goes ⟨_, _, _, rfl⟩
        · have e2 : rnames (pre ++ [p]) t = rnames pre t := by simp [rnames, rightB, c2]
          simp -implicitDefEqProofs [l0b__law_right, c1, c2, e2]
          exact goes ⟨_, _, _, rfl⟩
      · have e2 : rnames (pre ++ [p]) t = rnames pre t := by simp [rnames, rightB, c1]
        simp -implicitDefEqProofs [l0b__law_right, c1, e2]
        exact goes ⟨_, _, _, rfl⟩)
  simp -implicitDefEqProofs [f__law_right, b__law_right, h1])
theorem goes_of {m : SM} {P : Env → Prop} (h : ∀ J : Env → Prop, (∀ r, P r → J r) → Goes m J) : ∃ r, m = nextS r ∧ P r := h P fun _ h => h
theorem map_bl {g h : Nat → Bool} (e : ∀ x, x < 101 → g x = h x) : D.lst ((List.range 101).map fun x => D.bl (g x)) = canD h := by
  unfold canD
  congr 1
  exact List.map_congr_left fun x hx => by rw [e x (by simpa using hx)]
def kp (nl : List Tx) (r : Rd) : List Rp := r.2.filter fun x => !decide (x.nm ∈ nl)
theorem dp_step {l : D} {p : Pc} (hp : PcOk p) {nl : List Tx} {f b : Int} {r0 : Rd} (h0 : subD l (.int 0) = some (eD r0)) {g g' : Nat → Bool} {r : Rd} (hn : ¬ r.1 = r0.1) (hk : 1 ≤ k) (hlr : r.2.length ≤ 1000)
    (hg : ∀ x, x < 101 → (g' x = true ↔ (∃ u, u < 101 ∧ g u = true ∧ (u : Int) + p.1 * (r.1 - b) ≤ x ∧ (x : Int) ≤ u + p.2 * (r.1 - b)) ∧ ((kp nl r).length : Int) - f ≤ cnt (kp nl r) x)) (s8 s9 s10 s11 s12 s13 s14 s15 : Slot) :
    ∃ t8 t9 t10 t11, evSs (Lk' X k) l0b__law_dp [.v l, .v (eP p), .v (tNs nl), .v (.int f), .v (.int b), .v (canD g), .v (.int r.1), .v (eRs r.2), s8, s9, s10, s11, s12, s13, s14, s15] = nextS [.v l, .v (eP p), .v (tNs nl), .v (.int f), .v (.int r.1), .v (canD g'), .v (.int r.1), .v (eRs r.2), t8, t9, t10, t11, s12, s13, s14, s15] := by
  have z1 : compM (List.range 101) (fun i => noexc (bnd (lif (subD (canD g) (D.int ↑i))) fun a => bnd (lif (tru a)) fun c => if c = true then ret (some (D.int ↑i)) else ret none)) = compM (List.range 101) (fun i => if g i = true then ret (some (D.int ↑i)) else ret none) := by
    refine compM_congr fun i hi => ?_
    rw [can_sub (by simpa using hi)]
    simp
  have q1 := small_of (i := p.1) (by have := hp.1; omega) (by have := hp.2; omega)
  have q2 := small_of (i := p.2) (by have := hp.1; have := hp.2; omega) (by have := hp.2; omega)
  have hr := fun t => s_rightL (X := X) (k := k) (rs := r.2.filter (fun x => !decide (x.nm ∈ nl))) hk (Nat.le_trans (filter_len _ _) hlr) t
  obtain ⟨r', h1, t8, t9, t10, t11, rfl⟩ := goes_of (m := evSs (Lk' X k) l0b__law_dp [.v l, .v (eP p), .v (tNs nl), .v (.int f), .v (.int b), .v (canD g), .v (.int r.1), .v (eRs r.2), s8, s9, s10, s11, s12, s13, s14, s15]) (P := fun e => ∃ t8 t9 t10 t11, e = [.v l, .v (eP p), .v (tNs nl), .v (.int f), .v (.int r.1), .v (canD g'), .v (.int r.1), .v (eRs r.2), t8, t9, t10, t11, s12, s13, s14, s15]) fun J hJ => by
    simp -implicitDefEqProofs [l0b__law_dp, rngD, rngOk, z1, h0, eD, ixN, q1, q2, hn, if_bl, hr]
    rw [map_bl (h := g') fun x hx => ?_]
    · exact goes (hJ _ ⟨_, _, _, _, rfl⟩)
    · rw [Bool.eq_iff_iff, hg x hx]
      simp only [Bool.and_eq_true, decide_eq_true_eq, hx, true_and]
      rfl
  exact ⟨_, _, _, _, h1⟩
theorem dp_first {l : D} {p : Pc} {nl : List Tx} {f b : Int} {r : Rd} (h0 : subD l (.int 0) = some (eD r)) {g g' : Nat → Bool} (hk : 1 ≤ k) (hlr : r.2.length ≤ 1000) (h1 : ∀ x, g x = true)
    (hg : ∀ x, x < 101 → (g' x = true ↔ ((kp nl r).length : Int) - f ≤ cnt (kp nl r) x)) (s8 s9 s10 s11 s12 s13 s14 s15 : Slot) :
    ∃ t8 t9, evSs (Lk' X k) l0b__law_dp [.v l, .v (eP p), .v (tNs nl), .v (.int f), .v (.int b), .v (canD g), .v (.int r.1), .v (eRs r.2), s8, s9, s10, s11, s12, s13, s14, s15] = nextS [.v l, .v (eP p), .v (tNs nl), .v (.int f), .v (.int r.1), .v (canD g'), .v (.int r.1), .v (eRs r.2), t8, t9, s10, s11, s12, s13, s14, s15] := by
  have z1 : compM (List.range 101) (fun i => noexc (bnd (lif (subD (canD g) (D.int ↑i))) fun a => bnd (lif (tru a)) fun c => if c = true then ret (some (D.int ↑i)) else ret none)) = ret ((List.range 101).map fun i : Nat => D.int i) := by
    refine compM_ok fun i hi => ?_
    rw [can_sub (by simpa using hi), h1]
    simp
  have hr := fun t => s_rightL (X := X) (k := k) (rs := r.2.filter (fun x => !decide (x.nm ∈ nl))) hk (Nat.le_trans (filter_len _ _) hlr) t
  obtain ⟨r', h1, t8, t9, rfl⟩ := goes_of (m := evSs (Lk' X k) l0b__law_dp [.v l, .v (eP p), .v (tNs nl), .v (.int f), .v (.int b), .v (canD g), .v (.int r.1), .v (eRs r.2), s8, s9, s10, s11, s12, s13, s14, s15]) (P := fun e => ∃ t8 t9, e = [.v l, .v (eP p), .v (tNs nl), .v (.int f), .v (.int r.1), .v (canD g'), .v (.int r.1), .v (eRs r.2), t8, t9, s10, s11, s12, s13, s14, s15]) fun J hJ => by
    simp -implicitDefEqProofs [l0b__law_dp, rngD, rngOk, z1, h0, eD, ixN, if_bl, hr]
    rw [map_bl (h := g') fun x hx => ?_]
    · exact goes (hJ _ ⟨_, _, rfl⟩)
    · rw [Bool.eq_iff_iff, hg x hx]
      simp only [Bool.and_eq_true, decide_eq_true_eq, hx, true_and]
      rfl
  exact ⟨_, _, h1⟩
theorem s_dp (hk : 2 ≤ k) {p : Pc} (hp : PcOk p) {nl : List Tx} {f : Int} {r0 : Rd} {rest : List Rd} (h : Ld (keep nl r0) (rest.map (keep nl))) (hlr : ∀ r ∈ r0 :: rest, r.2.length ≤ 1000) :
    phi (U X) k 76 [eLg (r0 :: rest), eP p, tNs nl, .int f] = ret (canD fun i => insideB (ledS p f (keep nl r0) (rest.map (keep nl))).2 i) := at_def rfl (by omega) (by
  have hs : subD (eLg (r0 :: rest)) (.int 0) = some (eD r0) := sub_h0 rfl
  have ek : ∀ r, (keep nl r).2 = kp nl r := fun r => List.filter_congr fun x _ => by by_cases c : x.nm ∈ nl <;> simp [c]
  have key : ∀ {ps : List Rg} {C : Int → Prop} (x : Nat), (∀ t, inR ps t ↔ C t) → (insideB ps x = true ↔ C x) := fun x hc => inside_iff.trans (hc x)
  obtain ⟨r', e1, b, g, s6, s7, s8, s9, s10, s11, hb, rfl⟩ := fo_invJ (L := Lk' X (k - 1)) (s := l0__law_dp) (xs := r0 :: rest) (e := eD) (r0 := [.v (eLg (r0 :: rest)), .v (eP p), .v (tNs nl), .v (.int f), .v (.int r0.1), .v (canD fun _ => true), .none, .none, .none, .none, .none, .none, .none, .none, .none, .none]) rfl (by simp -implicitDefEqProofs [])
    (fun pre r => ∃ b g s6 s7 s8 s9 s10 s11, ((pre = [] ∧ g = fun _ => true) ∨ (∃ q, pre = r0 :: q ∧ b = (ledS p f (keep nl r0) (q.map (keep nl))).1 ∧ g = fun i : Nat => insideB (ledS p f (keep nl r0) (q.map (keep nl))).2 i)) ∧ r = [.v (eLg (r0 :: rest)), .v (eP p), .v (tNs nl), .v (.int f), .v (.int b), .v (canD g), s6, s7, s8, s9, s10, s11, .none, .none, .none, .none]) ⟨_, _, _, _, _, _, _, _, .inl ⟨rfl, rfl⟩, rfl⟩ (by
      rintro pre r post r' e ⟨b, g, s6, s7, s8, s9, s10, s11, hb, rfl⟩ J hJ
      rcases hb with ⟨rfl, rfl⟩ | ⟨q, rfl, rfl, rfl⟩
      · obtain ⟨rfl, rfl⟩ : r0 = r ∧ rest = post := by simpa using e
        obtain ⟨t8, t9, e2⟩ := dp_first (X := X) (k := k - 1) (l := eLg (r0 :: rest)) (p := p) (nl := nl) (f := f) (b := b) (g := fun _ => true) (g' := fun i : Nat => insideB (poss (keep nl r0).2 f) i) hs (by omega) (hlr r0 (by simp)) (fun _ => rfl) (fun x hx => by
          rw [inside_iff, (withM_spec (h.tr _ (by simp)) _).2, ek]
          exact ⟨fun z => z.2.2, fun z => ⟨by omega, by omega, z⟩⟩) s8 s9 s10 s11 .none .none .none .none
        simp -implicitDefEqProofs [eD, e2]
        exact goes (hJ _ ⟨_, _, _, _, _, _, _, _, .inr ⟨[], rfl, rfl, rfl⟩, rfl⟩)
      · have eq : rest = q ++ r :: post := by simpa using e
        have hm : r ∈ rest := by rw [eq]; simp
        have em : rest.map (keep nl) = q.map (keep nl) ++ keep nl r :: post.map (keep nl) := by rw [eq]; simp
        obtain ⟨a1, a2, a3⟩ := ledS_ok hp (f := f) h em
        have hlt := ledS_lt hp (f := f) h em
        have hrt : TR (keep nl r).2 := h.tr _ (by rw [em]; simp)
        obtain ⟨c1, c2, c3⟩ := lstep_ok hp (f := f) a1 a2 hlt hrt
        have hn : ¬ r.1 = r0.1 := fun en => by
          have := h.asc
          rw [em] at this
          have := (List.pairwise_cons.mp this).1 (keep nl r) (by simp)
          simp only [keep] at this
          omega
        rw [← ledS_snoc] at c1 c2 c3
        obtain ⟨t8, t9, t10, t11, e2⟩ := dp_step (X := X) (k := k - 1) (l := eLg (r0 :: rest)) hp (nl := nl) (f := f) (b := (ledS p f (keep nl r0) (q.map (keep nl))).1) (g := fun i : Nat => insideB (ledS p f (keep nl r0) (q.map (keep nl))).2 i) (g' := fun i : Nat => insideB (ledS p f (keep nl r0) (q.map (keep nl) ++ [keep nl r])).2 i) hs hn (by omega) (hlr r (by simp [hm])) (fun x hx => by
          rw [inside_iff, c3, ek]
          have er : (keep nl r).1 = r.1 := rfl
          rw [er]
          have f0 : 0 ≤ p.1 * (r.1 - (ledS p f (keep nl r0) (q.map (keep nl))).1) := Int.mul_nonneg hp.1 (by rw [er] at hlt; omega)
          constructor
          · rintro ⟨⟨_, u, hu, u1, u2⟩, _, _, v⟩
            obtain ⟨pu, hpu, pu1, pu2⟩ := hu
            have := a2 pu hpu
            refine ⟨⟨u.toNat, by omega, inside_iff.mpr ⟨pu, hpu, by omega, by omega⟩, ?_, ?_⟩, v⟩
            · rw [Int.toNat_of_nonneg (by omega)]; exact u1
            · rw [Int.toNat_of_nonneg (by omega)]; exact u2
          · rintro ⟨⟨u, hu, hi, u1, u2⟩, v⟩
            exact ⟨⟨by omega, u, inside_iff.mp hi, u1, u2⟩, by omega, by omega, v⟩) s8 s9 s10 s11 .none .none .none .none
        simp -implicitDefEqProofs [eD, e2]
        exact goes (hJ _ ⟨_, _, _, _, _, _, _, _, .inr ⟨q ++ [r], by simp, by rw [List.map_append, List.map_singleton, ledS_snoc]; rfl, by rw [List.map_append, List.map_singleton]⟩, rfl⟩))
  have hb' : g = fun i : Nat => insideB (ledS p f (keep nl r0) (rest.map (keep nl))).2 i := by
    rcases hb with ⟨h, _⟩ | ⟨q, h, _, e⟩
    · cases h
    · obtain rfl : rest = q := by simpa using h
      exact e
  subst hb'
  have rep : binD .mul (.lst [.bl true]) (.int 101) = some (canD fun _ => true) := rfl
  simp -implicitDefEqProofs [f__law_dp, b__law_dp, -sub_t, hs, rep, e1])
end Lw
end
section
/-! what is no log -/
namespace Lw
open Py
variable {X : List Fd} {k : Nat}
theorem rd_no2 (hk : 3 ≤ k) {a b : D} (h : okD a = true) (hm : isMom a = false) : phi (U X) k 62 [.tup [a, b]] = ret (.bl false) := at_def rfl (by omega) (by
  have z := s_is_moment (X := X) (k := k - 1) (by omega) h
  rw [hm] at z
  simp -implicitDefEqProofs [f_is_round, b_is_round, isTy, z, ixN])
theorem rd_nol (hk : 5 ≤ k) {m : Int} (hm : 0 ≤ m ∧ m ≤ 999) {rs : List Rp} (h : VR rs) : phi (U X) k 62 [.tup [.int m, .lst (rs.map eR)]] = ret (.bl false) := at_def rfl (by omega) (by
  have z := s_is_moment (X := X) (k := k - 1) (by omega) (d := .int m) rfl
  have z2 := s_are_reports (X := X) (k := k - 1) (d := .lst (rs.map eR)) (n := 7) (by omega) h.pl
  have e : areReps (.lst (rs.map eR)) = false := rfl
  rw [e] at z2
  simp -implicitDefEqProofs [f_is_round, b_is_round, isTy, z, z2, ixN, hm, isMom])
theorem rd_no3 (hk : 1 ≤ k) {a b c : D} : phi (U X) k 62 [.tup [a, b, c]] = ret (.bl false) := at_def rfl (by omega) (by
  simp -implicitDefEqProofs [f_is_round, b_is_round, isTy])
theorem rd_nonon (hk : 1 ≤ k) : phi (U X) k 62 [.non] = ret (.bl false) := at_def rfl (by omega) (by
  simp -implicitDefEqProofs [f_is_round, b_is_round, isTy])
theorem rd_noint (hk : 1 ≤ k) (i : Int) : phi (U X) k 62 [.int i] = ret (.bl false) := at_def rfl (by omega) (by
  simp -implicitDefEqProofs [f_is_round, b_is_round, isTy])
theorem rd_notup (hk : 1 ≤ k) {xs : List D} (h : xs.length ≠ 2) : phi (U X) k 62 [.tup xs] = ret (.bl false) := at_def rfl (by omega) (by
  have e : ¬ (xs.length : Int) = 2 := by omega
  simp -implicitDefEqProofs [f_is_round, b_is_round, isTy, e])
theorem rd_big (hk : 5 ≤ k) {r : Rd} (h1 : VR r.2) (h2 : 6 < r.2.length) (h3 : 0 ≤ r.1 ∧ r.1 ≤ 999) : phi (U X) k 62 [eD r] = ret (.bl false) := at_def rfl (by omega) (by
  have z1 := s_is_moment (X := X) (k := k - 1) (by omega) (d := .int r.1) rfl
  have z2 := s_are_reports (X := X) (k := k - 1) (by omega) h1.pl
  rw [h1.are] at z2
  have h2' : ¬ (r.2.length : Int) ≤ 6 := by omega
  have h2'' : ¬ r.2.length ≤ 6 := by omega
  simp -implicitDefEqProofs [f_is_round, b_is_round, z1, z2, eD, ixN, h3, h2', h2'', isTy, isMom])
theorem lg_out {α : Type} (hk : 1 ≤ k) {xs : List α} {e : α → D} {R : α → Bool} (hR : ∀ x ∈ xs, phi (U X) (k - 1) 62 [e x] = ret (.bl (R x))) (hno : xs.all R = false) : phi (U X) k 63 [.tup (xs.map e)] = ret (.bl false) := at_def rfl (by omega) (by
  have z1 : compM xs (fun x => noexc (bnd (phi (U X) (k - 1) 62 [e x]) fun y => ret (some y))) = ret (xs.map fun x => D.bl (R x)) :=
    compM_ok fun r hr => by rw [hR r hr]; simp
  by_cases g : (xs.length : Int) < 1 ∨ (6 : Int) < xs.length
  · simp -implicitDefEqProofs [f_is_log, b_is_log, isTy, g]
  · have hno' : ∃ x, x ∈ xs ∧ R x = false := by simpa using hno
    simp -implicitDefEqProofs [f_is_log, b_is_log, isTy, g, z1, hno'])
theorem lg_snoc {α : Type} (hk : 1 ≤ k) {xs : List α} {e : α → D} {R : α → Bool} (hR : ∀ x ∈ xs, phi (U X) (k - 1) 62 [e x] = ret (.bl (R x))) {d : D} (hd : phi (U X) (k - 1) 62 [d] = ret (.bl false)) : phi (U X) k 63 [.tup (xs.map e ++ [d])] = ret (.bl false) := by
  have z := lg_out (X := X) (k := k) hk (xs := xs.map some ++ [none]) (e := fun o : Option α => match o with | some a => e a | none => d) (R := fun o => match o with | some a => R a | none => false) (fun o ho => by
    rcases List.mem_append.mp ho with h | h
    · obtain ⟨a, ha, rfl⟩ := List.mem_map.mp h
      exact hR a ha
    · simp at h
      subst h
      exact hd) (by simp)
  rw [List.map_append, List.map_map] at z
  exact z
theorem lg_list (hk : 1 ≤ k) {xs : List D} : phi (U X) k 63 [.lst xs] = ret (.bl false) := at_def rfl (by omega) (by
  simp -implicitDefEqProofs [f_is_log, b_is_log, isTy])
theorem lg_len (hk : 1 ≤ k) {xs : List D} (h : xs.length = 0 ∨ 6 < xs.length) : phi (U X) k 63 [.tup xs] = ret (.bl false) := at_def rfl (by omega) (by
  have g : (xs.length : Int) < 1 ∨ (6 : Int) < xs.length := by omega
  simp -implicitDefEqProofs [f_is_log, b_is_log, isTy, g])
theorem lg_rd (hk : 6 ≤ k) {l : List Rd} {r0 : Rd} {rest : List Rd} (e0 : l = r0 :: rest) (n6 : l.length ≤ 6) (vr : ∀ r ∈ l, VR r.2) (six : ∀ r ∈ l, r.2.length ≤ 6) (mom : ∀ r ∈ l, 0 ≤ r.1 ∧ r.1 ≤ 999) :
    phi (U X) k 63 [eLg l] = ret (.bl (((l.zip (tl l)).all fun p => decide (p.1.1 < p.2.1)) && (l.all fun x => decide (x.2.map (·.nm) = r0.2.map (·.nm))))) := at_def rfl (by omega) (by
  have n1 : 1 ≤ l.length := by rw [e0]; simp
  have z1 : compM l (fun x => noexc (bnd (phi (U X) (k - 1) 62 [eD x]) fun y => ret (some y))) = ret (l.map fun _ => D.bl true) :=
    compM_ok fun r hr => by rw [s_is_round_ok (by omega) (vr r hr) (six r hr) (mom r hr)]; simp
  have z2 := fun rs => s_sources (X := X) (k := k - 1) (by omega) rs
  have hs := sub_h0 e0
  have g1 : ¬ ((l.length : Int) < 1 ∨ (6 : Int) < l.length) := by omega
  have g2 : l.length ≤ LIM := by show _ ≤ 16777216; omega
  generalize ha : ((l.zip (tl l)).all fun p => decide (p.1.1 < p.2.1)) = a
  cases a <;> simp -implicitDefEqProofs [f_is_log, b_is_log, isTy, -sub_t, hs, z1, z2, g1, g2, ha, eqL_N])
theorem zip_all {α : Type} {R : α → α → Prop} [∀ a b, Decidable (R a b)] : ∀ {l : List α}, ((l.zip (tl l)).all fun p => decide (R p.1 p.2)) = true → ∀ i a b, l[i]? = some a → l[i + 1]? = some b → R a b
  | [], _, i, a, b, h1, _ => by simp at h1
  | [x], _, i, a, b, h1, h2 => by simp at h2
  | x :: y :: l, h, 0, a, b, h1, h2 => by
    simp only [tl_cons, List.zip_cons_cons, List.all_cons, Bool.and_eq_true, decide_eq_true_eq] at h
    simp at h1 h2
    rw [← h1, ← h2]
    exact h.1
  | x :: y :: l, h, i + 1, a, b, h1, h2 => by
    simp only [tl_cons, List.zip_cons_cons, List.all_cons, Bool.and_eq_true, decide_eq_true_eq] at h
    exact zip_all (l := y :: l) h.2 i a b (by simpa using h1) (by simpa using h2)
end Lw
end
section
/-! sets of names -/
namespace Lw
open Py
variable {X : List Fd} {k : Nat}
def extS (names : List Tx) (c : List Tx) : List (List Tx) := (names.filter fun x => c.isEmpty || txLt (c.getLastD []) x).map fun x => c ++ [x]
def lvl (names : List Tx) : Nat → List (List Tx)
  | 0 => [[]]
  | s + 1 => (lvl names s).flatMap (extS names)
def smalls (names : List Tx) (f : Nat) : List (List Tx) := (List.range (f + 1)).flatMap (lvl names)
theorem lvl_len (names : List Tx) : ∀ s c, c ∈ lvl names s → c.length = s
  | 0, c, h => by simp [lvl] at h; simp [h]
  | s + 1, c, h => by
    obtain ⟨d, hd, h⟩ := List.mem_flatMap.mp h
    obtain ⟨x, _, rfl⟩ := List.mem_map.mp h
    have := lvl_len names s d hd
    simp [this]
theorem smalls_succ (names : List Tx) (f : Nat) : smalls names (f + 1) = smalls names f ++ lvl names (f + 1) := by
  unfold smalls
  rw [List.range_succ (n := f + 1), List.flatMap_append]
  simp
theorem smalls_lvl (names : List Tx) : ∀ f, (smalls names f).filter (fun c => decide (c.length = f)) = lvl names f
  | 0 => by simp [smalls, lvl]
  | f + 1 => by
    rw [smalls_succ, List.filter_append]
    have e1 : (smalls names f).filter (fun c => decide (c.length = f + 1)) = [] := by
      rw [List.filter_eq_nil_iff]
      intro c hc
      obtain ⟨s, hs, h⟩ := List.mem_flatMap.mp hc
      have := lvl_len names s c h
      have : s < f + 1 := by simpa using hs
      simp
      omega
    have e2 : (lvl names (f + 1)).filter (fun c => decide (c.length = f + 1)) = lvl names (f + 1) := by
      rw [List.filter_eq_self]
      intro c hc
      simp [lvl_len names _ c hc]
    rw [e1, e2]
    rfl
theorem sub_lastT (xs : List D) (x : D) : subD (.tup (xs ++ [x])) (.int (-1)) = some x := by
  have z := sub_last xs x
  rw [sub_l] at z
  rw [sub_t]
  exact z
theorem s_small1 {names : List Tx} {s : Nat} {F : List (List Tx)} {m : D} (hF : F.length * names.length + names.length ≤ 1000000) (hl : ∀ c ∈ F, c.length ≤ 1000) (s5 s6 : Slot) :
    ∃ t5 t6, evS (Lk' X k) l1_small_sets [.v (eNs names), .v m, .v (.lst (F.map tNs)), .v (.int s), .o [], s5, s6] = nextS [.v (eNs names), .v m, .v (.lst (F.map tNs)), .v (.int s), .o (((F.filter fun c => decide (c.length = s)).flatMap (extS names)).map tNs), t5, t6] := by
  obtain ⟨r', h1, t5, t6, hn, rfl⟩ := fo_invJ (L := Lk' X k) (s := l1_small_sets) (xs := F) (e := tNs) (r0 := [.v (eNs names), .v m, .v (.lst (F.map tNs)), .v (.int s), .o [], s5, s6]) rfl (by simp -implicitDefEqProofs [])
    (fun pre r => ∃ t5 t6, ((pre.filter fun c => decide (c.length = s)).flatMap (extS names)).length ≤ pre.length * names.length ∧ r = [.v (eNs names), .v m, .v (.lst (F.map tNs)), .v (.int s), .o (((pre.filter fun c => decide (c.length = s)).flatMap (extS names)).map tNs), t5, t6]) ⟨_, _, by simp, rfl⟩ (by
      rintro pre c post r e ⟨t5, t6, hn, rfl⟩ J hJ
      have hc : c ∈ F := by rw [e]; simp
      have hcl := hl c hc
      have hpl : pre.length < F.length := by rw [e]; simp
      have hx : (extS names c).length ≤ names.length := by unfold extS; rw [List.length_map]; exact filter_len _ _
      have hmul : pre.length * names.length ≤ F.length * names.length := Nat.mul_le_mul_right _ (by omega)
      by_cases q : c.length = s
      · have ef : ((pre ++ [c]).filter fun c => decide (c.length = s)).flatMap (extS names) = (pre.filter fun c => decide (c.length = s)).flatMap (extS names) ++ extS names c := by
          rw [List.filter_append, List.flatMap_append]
          simp [q]
        rw [ef] at hJ
        have hb : ((pre.filter fun c => decide (c.length = s)).flatMap (extS names)).length + (extS names c).length ≤ (pre ++ [c]).length * names.length := by
          rw [List.length_append, List.length_singleton, Nat.succ_mul]
          omega
        generalize (pre.filter fun c => decide (c.length = s)).flatMap (extS names) = G at *
        have q' : (c.length : Int) = s := by omega
        have lim : c.length + 1 ≤ 16777216 := by omega
        have lim2 : G.length + (extS names c).length ≤ 16777216 := by omega
        rcases snoc_cases c with rfl | ⟨ys, b, rfl⟩
        · obtain rfl : s = 0 := by simpa using q.symm
          have ee : extS names [] = names.map fun x => [x] := by
            unfold extS
            rw [List.filter_eq_self.mpr (by simp)]
            rfl
          rw [ee] at hJ hb lim2
          simp only [List.length_map] at lim2
          simp -implicitDefEqProofs [l1b_small_sets, lim2, LIM]
          exact goes (hJ _ ⟨_, _, by rw [List.length_append]; exact hb, by rw [List.map_append, List.map_map]; rfl⟩)
        · have ee : extS names (ys ++ [b]) = (names.filter fun x => txLt b x).map fun x => ys ++ [b] ++ [x] := by
            unfold extS
            rw [List.filter_congr (q := fun x => txLt b x) fun x _ => by simp]
          rw [ee] at hJ hb lim2
          have sl := sub_lastT (ys.map D.str) (.str b)
          simp only [List.length_append, List.length_singleton] at q' lim
          simp only [List.length_map] at lim2
          have q'' : (ys.length : Int) + 1 = s := by simpa using q'
          have eM : ∀ L : List Tx, List.map tNs (L.map fun x => ys ++ [b] ++ [x]) = L.map fun x => D.tup (ys.map D.str ++ [D.str b, D.str x]) := fun L => by simp
          simp -implicitDefEqProofs [l1b_small_sets, q'', lim, lim2, LIM, -sub_t, sl]
          exact goes (hJ _ ⟨_, _, by rw [List.length_append]; exact hb, by rw [List.map_append, eM]⟩)
      · have ef : ((pre ++ [c]).filter fun c => decide (c.length = s)).flatMap (extS names) = (pre.filter fun c => decide (c.length = s)).flatMap (extS names) := by
          rw [List.filter_append, List.flatMap_append]
          simp [q]
        rw [ef] at hJ
        have q' : ¬ (c.length : Int) = s := by omega
        simp -implicitDefEqProofs [l1b_small_sets, q']
        exact goes (hJ _ ⟨_, _, Nat.le_trans hn (by rw [List.length_append]; exact Nat.mul_le_mul_right _ (by omega)), rfl⟩))
  exact ⟨_, _, h1⟩
theorem s_small (hk : 1 ≤ k) {names : List Tx} {f : Nat} (hf : f ≤ 1000) (hb : ∀ g, g ≤ f → (smalls names g).length * names.length + names.length ≤ 1000000 ∧ (smalls names g).length ≤ 1000000) : phi (U X) k 69 [eNs names, .int f] = ret (.lst ((smalls names f).map tNs)) := at_def rfl (by omega) (by
  have hr : rngOk 0 (f : Int) = true := by unfold rngOk; simp; omega
  obtain ⟨r', h1, s3, s4, s5, s6, rfl⟩ := fo_invJ (L := Lk' X (k - 1)) (s := l0_small_sets) (xs := List.range f) (e := fun i : Nat => D.int (0 + i)) (r0 := [.v (eNs names), .v (.int f), .v (.lst [.tup []]), .none, .none, .none, .none]) rfl (by simp -implicitDefEqProofs [rngD, hr])
    (fun pre r => ∃ s3 s4 s5 s6, r = [.v (eNs names), .v (.int f), .v (.lst ((smalls names pre.length).map tNs)), s3, s4, s5, s6]) ⟨_, _, _, _, rfl⟩ (by
      rintro pre i post r e ⟨s3, s4, s5, s6, rfl⟩ J hJ
      obtain ⟨rfl, hi⟩ := range_at e
      have b1 := hb pre.length (by omega)
      have b2 := hb (pre.length + 1) (by omega)
      rw [smalls_succ, List.length_append] at b2
      obtain ⟨t5, t6, h2⟩ := s_small1 (X := X) (k := k - 1) (names := names) (s := pre.length) (F := smalls names pre.length) (m := .int f) b1.1 (fun c hc => by
        obtain ⟨s, hs, h⟩ := List.mem_flatMap.mp hc
        have := lvl_len names s c h
        have : s < pre.length + 1 := by simpa using hs
        omega) s5 s6
      rw [smalls_lvl] at h2
      have el : (pre ++ [pre.length]).length = pre.length + 1 := by simp
      rw [el, smalls_succ] at hJ
      have e3 : lvl names (pre.length + 1) = (lvl names pre.length).flatMap (extS names) := rfl
      rw [e3] at hJ b2
      generalize (lvl names pre.length).flatMap (extS names) = G at *
      generalize smalls names pre.length = F at *
      have lim : F.length + G.length ≤ 16777216 := by omega
      simp -implicitDefEqProofs [l0b_small_sets, h2, lim, LIM]
      exact goes (hJ _ ⟨_, _, _, _, by rw [List.map_append]⟩))
  simp only [List.length_range] at h1
  generalize (smalls names f) = F at *
  simp -implicitDefEqProofs [f_small_sets, b_small_sets, h1])
/-! the times without some names -/
abbrev W (p : Pc) (r0 : Rd) (rest : List Rd) (c : List Tx) : List Rg := (ledS p 0 (keep c r0) (rest.map (keep c))).2
theorem keep_tr {r : Rd} (h : TR r.2) (c : List Tx) : TR (keep c r).2 := ⟨fun x hx => h.t x (List.mem_filter.mp hx).1⟩
theorem Lg.ldk {r0 : Rd} {rest : List Rd} (h : Lg (r0 :: rest)) (c : List Tx) : Ld (keep c r0) (rest.map (keep c)) := by
  have key : ∀ r ∈ keep c r0 :: rest.map (keep c), ∃ s ∈ r0 :: rest, r = keep c s := fun r hr => by
    rw [← List.map_cons] at hr
    obtain ⟨s, hs, rfl⟩ := List.mem_map.mp hr
    exact ⟨s, hs, rfl⟩
  refine ⟨fun r hr => ?_, fun r hr => ?_, ?_⟩
  · obtain ⟨s, hs, rfl⟩ := key r hr
    exact keep_tr (h.vr s hs).tr c
  · obtain ⟨s, hs, rfl⟩ := key r hr
    exact Nat.le_trans (filter_len _ _) (h.vr s hs).len
  · rw [← List.map_cons, List.pairwise_map]
    exact h.asc
theorem s_led_without (hk : 6 ≤ k) {p : Pc} (hp : PcOk p) {r0 : Rd} {rest : List Rd} (h : Lg (r0 :: rest)) (c : List Tx) : phi (U X) k 70 [eLg (r0 :: rest), eP p, tNs c] = ret (eGs (W p r0 rest c)) := at_def rfl (by omega) (by
  have z := s_led (X := X) (k := k - 1) (by omega) hp (f := 0) (h.ldk c) (.inr rfl)
  rw [← List.map_cons] at z
  have e : ((r0 :: rest).map (keep c)).map eD = (r0 :: rest).map fun r => D.tup [.int r.1, .tup ((r.2.filter fun x => !decide (x.nm ∈ c)).map eR)] := by
    rw [List.map_map]
    refine List.map_congr_left fun r _ => ?_
    simp [keep, eD]
  rw [e] at z
  unfold eLg
  generalize (r0 :: rest) = L at *
  simp -implicitDefEqProofs [f_led_without, b_led_without, eD, ixN, z])
end Lw
end
section
/-! the smallest sets -/
namespace Lw
open Py
variable {X : List Fd} {k : Nat}
def ltN : List Tx → List Tx → Bool
  | [], [] => false
  | [], _ :: _ => true
  | _ :: _, [] => false
  | x :: r, y :: t => txLt x y || (!txLt y x && ltN r t)
theorem ltN_k : ∀ a b : List Tx, ltF (tNs a) (tNs b) = ltN a b
  | [], [] => rfl
  | [], _ :: _ => rfl
  | _ :: _, [] => rfl
  | x :: r, y :: t => by
    have ih := ltN_k r t
    simp only [ltF, tNs, List.map_cons, ltFl, ltI, ltN] at ih ⊢
    rw [ih]
theorem ltN_irr : ∀ a : List Tx, ltN a a = false
  | [] => rfl
  | x :: r => by simp [ltN, txLt_irr, ltN_irr r]
theorem ltN_tri : ∀ a b : List Tx, ltN a b = true ∨ a = b ∨ ltN b a = true
  | [], [] => .inr (.inl rfl)
  | [], _ :: _ => .inl rfl
  | _ :: _, [] => .inr (.inr rfl)
  | x :: r, y :: t => by
    rcases txLt_tri x y with h | rfl | h
    · left; simp [ltN, h]
    · rcases ltN_tri r t with q | rfl | q
      · left; simp [ltN, txLt_irr, q]
      · right; left; rfl
      · right; right; simp [ltN, txLt_irr, q]
    · right; right; simp [ltN, h]
theorem ltN_tr : ∀ {a b c : List Tx}, ltN a b = true → ltN b c = true → ltN a c = true
  | [], [], _, h, _ => by simp [ltN] at h
  | [], _ :: _, [], _, h => by simp [ltN] at h
  | [], _ :: _, _ :: _, _, _ => rfl
  | _ :: _, [], _, h, _ => by simp [ltN] at h
  | _ :: _, _ :: _, [], _, h => by simp [ltN] at h
  | x :: r, y :: t, z :: u, h1, h2 => by
    simp only [ltN, Bool.or_eq_true, Bool.and_eq_true, Bool.not_eq_true'] at h1 h2 ⊢
    rcases h1 with h1 | ⟨n1, h1⟩
    · rcases h2 with h2 | ⟨n2, h2⟩
      · exact .inl (txLt_tr h1 h2)
      · rcases txLt_tri y z with q | rfl | q
        · exact .inl (txLt_tr h1 q)
        · exact .inl h1
        · rw [q] at n2; cases n2
    · rcases txLt_tri x y with q | rfl | q
      · rcases h2 with h2 | ⟨n2, h2⟩
        · exact .inl (txLt_tr q h2)
        · rcases txLt_tri y z with q2 | rfl | q2
          · exact .inl (txLt_tr q q2)
          · exact .inl q
          · rw [q2] at n2; cases n2
      · rcases h2 with h2 | ⟨n2, h2⟩
        · exact .inl h2
        · exact .inr ⟨n2, ltN_tr h1 h2⟩
      · rw [q] at n1; cases n1
theorem sortN_perm {xs ys : List (List Tx)} (h : xs.Perm ys) : isort ltN xs = isort ltN ys := by
  have s := fun xs => isort_sorted (lt := ltN) (fun a b => ltN a b = true ∨ a = b) (fun x y h => .inl h) (fun x y h => by
    rcases ltN_tri x y with q | rfl | q
    · rw [q] at h; cases h
    · exact .inr rfl
    · exact .inl q) (fun x y z h1 h2 => by
    rcases h1 with h1 | rfl
    · rcases h2 with h2 | rfl
      · exact .inl (ltN_tr h1 h2)
      · exact .inl h1
    · exact h2) xs
  refine List.Perm.eq_of_pairwise (le := fun a b => ltN a b = true ∨ a = b) (fun a b _ _ h1 h2 => ?_) (s xs) (s ys) ((isort_perm xs).trans (h.trans (isort_perm ys).symm))
  rcases h1 with h1 | h1
  · rcases h2 with h2 | h2
    · have := ltN_tr h1 h2
      rw [ltN_irr] at this
      cases this
    · exact h2.symm
  · exact h1
theorem sortD_N {xs : List (List Tx)} (h : xs.length < 2 ∨ ∀ c ∈ xs, c ≠ []) : sortD (xs.map tNs) = some ((isort ltN xs).map tNs) := by
  unfold sortD
  have ok : sortOk (xs.map tNs) = true := by
    unfold sortOk
    rcases h with h | h
    · simp [h]
    · rw [Bool.or_eq_true]
      right
      rw [Bool.or_eq_true]
      right
      rw [List.any_eq_true]
      refine ⟨fun _ => true, by simp [shapes], ?_⟩
      rw [List.all_map, List.all_eq_true]
      intro c hc
      have hs : ∀ (c : List Tx) i, shpF (fun _ => true) i (c.map D.str) = true := fun c => by
        induction c with
        | nil => intro i; rfl
        | cons a r ih => intro i; simp [shpF, ih]
      cases c with
      | nil => exact absurd rfl (h [] hc)
      | cons a r => exact hs (a :: r) 0
  rw [if_pos ok, isort_map ltN_k]
theorem b_sortedN {xs : List (List Tx)} (h : xs.length < 2 ∨ ∀ c ∈ xs, c ≠ []) : bltD .sorted [.lst (xs.map tNs)] = some (.lst ((isort ltN xs).map tNs)) := by
  rw [bltD, sortedD, sortD_N h]
  rfl
/-! -/
def subq (d c : List Tx) : Bool := decide (d ≠ c) && d.all fun x => decide (x ∈ c)
def mins (S : List (List Tx)) (g : List Tx → Bool) (c : List Tx) : Bool := g c && !(S.any fun d => subq d c && g d)
def sstep (g : List Tx → Bool) (F : List (List Tx)) (c : List Tx) : List (List Tx) := if (F.any fun o => o.all fun x => decide (x ∈ c)) = true then F else if g c = true then F ++ [c] else F
structure Sets (S : List (List Tx)) : Prop where
  nd : S.Nodup
  ord : S.Pairwise fun a b => subq b a = false
  len : ∀ c ∈ S, ∀ d ∈ S, subq d c = true → d.length < c.length
theorem subq_iff {d c : List Tx} : subq d c = true ↔ d ≠ c ∧ ∀ x ∈ d, x ∈ c := by
  simp [subq]
theorem least_in {S : List (List Tx)} (h : Sets S) (g : List Tx → Bool) (c : List Tx) : ∀ (n : Nat) (d : List Tx), d ∈ S → d.length ≤ n → (∀ x ∈ d, x ∈ c) → g d = true → ∃ e ∈ S, (∀ x ∈ e, x ∈ c) ∧ e.length ≤ d.length ∧ mins S g e = true := by
  intro n
  induction n with
  | zero =>
    intro d hd hn hs hg
    cases hm : mins S g d with
    | true => exact ⟨d, hd, hs, Nat.le_refl _, hm⟩
    | false =>
      simp only [mins, hg, Bool.true_and, Bool.not_eq_false', List.any_eq_true, Bool.and_eq_true] at hm
      obtain ⟨e, he, h1, h2⟩ := hm
      have := h.len d hd e he h1
      omega
  | succ n ih =>
    intro d hd hn hs hg
    cases hm : mins S g d with
    | true => exact ⟨d, hd, hs, Nat.le_refl _, hm⟩
    | false =>
      simp only [mins, hg, Bool.true_and, Bool.not_eq_false', List.any_eq_true, Bool.and_eq_true] at hm
      obtain ⟨e, he, h1, h2⟩ := hm
      have hl := h.len d hd e he h1
      obtain ⟨u, a, b, c', m⟩ := ih e he (by omega) (fun x hx => hs x ((subq_iff.mp h1).2 x hx)) h2
      exact ⟨u, a, b, by omega, m⟩
theorem susp_any {S pre post : List (List Tx)} {c : List Tx} (h : Sets S) (g : List Tx → Bool) (e : S = pre ++ c :: post) : ((pre.filter (mins S g)).any fun o => o.all fun x => decide (x ∈ c)) = (S.any fun d => subq d c && g d) := by
  have hc : c ∉ pre := fun hc => by
    have := h.nd
    rw [e, List.nodup_append] at this
    exact this.2.2 c hc c (by simp) rfl
  rw [Bool.eq_iff_iff, List.any_eq_true, List.any_eq_true]
  constructor
  · rintro ⟨o, ho, hs⟩
    obtain ⟨h1, h2⟩ := List.mem_filter.mp ho
    refine ⟨o, by rw [e]; simp [h1], ?_⟩
    rw [Bool.and_eq_true]
    refine ⟨subq_iff.mpr ⟨fun q => hc (q ▸ h1), by simpa using hs⟩, ?_⟩
    simp only [mins, Bool.and_eq_true] at h2
    exact h2.1
  · rintro ⟨d, hd, hs⟩
    rw [Bool.and_eq_true] at hs
    obtain ⟨s1, s2⟩ := subq_iff.mp hs.1
    obtain ⟨u, hu, u1, u2, u3⟩ := least_in h g c d.length d hd (Nat.le_refl _) s2 hs.2
    have hl := h.len c (by rw [e]; simp) d hd hs.1
    have hne : u ≠ c := fun q => by rw [q] at u2; omega
    have hsu : subq u c = true := subq_iff.mpr ⟨hne, u1⟩
    have hup : u ∈ pre := by
      rw [e] at hu
      rcases List.mem_append.mp hu with q | q
      · exact q
      · rcases List.mem_cons.mp q with q | q
        · exact absurd q hne
        · have := h.ord
          rw [e, List.pairwise_append] at this
          have := (List.pairwise_cons.mp this.2.1).1 u q
          rw [hsu] at this
          cases this
    exact ⟨u, List.mem_filter.mpr ⟨hup, u3⟩, by simpa using u1⟩
theorem susp_step {S pre post : List (List Tx)} {c : List Tx} (h : Sets S) (g : List Tx → Bool) (e : S = pre ++ c :: post) : sstep g (pre.filter (mins S g)) c = (pre ++ [c]).filter (mins S g) := by
  unfold sstep
  rw [susp_any h g e, List.filter_append]
  cases q : (S.any fun d => subq d c && g d) with
  | true =>
    have m : mins S g c = false := by unfold mins; rw [q]; simp
    simp [m]
  | false =>
    cases r : g c with
    | true =>
      have m : mins S g c = true := by unfold mins; rw [q, r]; rfl
      simp [m]
    | false =>
      have m : mins S g c = false := by unfold mins; rw [r]; rfl
      simp [m]
end Lw
end
section
/-! fixed liars -/
namespace Lw
open Py
variable {X : List Fd} {k : Nat}
theorem W_ok {p : Pc} (hp : PcOk p) {r0 : Rd} {rest : List Rd} (h : Lg (r0 :: rest)) (c : List Tx) : Neat (W p r0 rest c) ∧ Day (W p r0 rest c) := by
  obtain ⟨a, b, _⟩ := ledS_ok hp (f := 0) (h.ldk c) (List.append_nil (rest.map (keep c))).symm
  exact ⟨a, b⟩
/-- few sets -/
structure FewS (names : List Tx) (f : Nat) : Prop where
  le : f ≤ 1000
  n : names.length ≤ 1000
  s : ∀ g, g ≤ f → (smalls names g).length ≤ 64
theorem FewS.small {names : List Tx} {f : Nat} (h : FewS names f) (hk : 1 ≤ k) : phi (U X) k 69 [eNs names, .int f] = ret (.lst ((smalls names f).map tNs)) :=
  s_small hk h.le fun g hg => by
    have h1 := h.s g hg
    have h2 := Nat.mul_le_mul h1 h.n
    have h3 := h.n
    omega
theorem s_fixed (hk : 8 ≤ k) {p : Pc} (hp : PcOk p) {r0 : Rd} {rest : List Rd} (h : Lg (r0 :: rest)) {f : Nat} (hf : f ≤ 10) {names : List Tx} (hn : r0.2.map (·.nm) = names) (hs : FewS names f) :
    phi (U X) k 71 [eLg (r0 :: rest), eP p, .int f] = ret (eGs (mrg ((smalls names f).flatMap (W p r0 rest)))) := at_def rfl (by omega) (by
  have z1 := s_check_log (X := X) (k := k - 1) (by omega) h hp (f := f) (by omega) (by omega)
  have z2 := hs.small (X := X) (k := k - 1) (by omega)
  have z3 := s_sources (X := X) (k := k - 1) (by omega) r0.2
  have z4 := fun c => s_led_without (X := X) (k := k - 1) (by omega) hp h c
  have z5 : subD (eLg (r0 :: rest)) (.int 0) = some (eD r0) := sub_h0 rfl
  have wl : ∀ c, (W p r0 rest c).length ≤ 5001 := fun c => (W_ok hp h c).2.len (W_ok hp h c).1
  have tot : ∀ S : List (List Tx), (S.flatMap (W p r0 rest)).length ≤ S.length * 5001 := fun S => by
    induction S with
    | nil => simp
    | cons c S ih =>
      have := wl c
      simp only [List.flatMap_cons, List.length_append, List.length_cons]
      omega
  have h64 := hs.s f (Nat.le_refl _)
  have tS := tot (smalls names f)
  have z6 := s_merged (X := X) (k := k - 1) (ps := (smalls names f).flatMap (W p r0 rest)) (by omega) (by omega)
  generalize eLg (r0 :: rest) = L at *
  generalize hW : W p r0 rest = w at *
  rw [hn] at z3
  generalize smalls names f = S at *
  obtain ⟨r', e1, s4, rfl⟩ := fo_invJ (L := Lk' X (k - 1)) (s := l0_followed_fixed) (xs := S) (e := tNs) (r0 := [.v L, .v (eP p), .v (.int f), .o [], .none]) rfl (by simp -implicitDefEqProofs [-sub_t, z5, z3, z2])
    (fun pre r => ∃ s4, r = [.v L, .v (eP p), .v (.int f), .o ((pre.flatMap w).map eG), s4]) ⟨_, rfl⟩ (by
      rintro pre c post r e ⟨s4, rfl⟩ J hJ
      have hpl : pre.length < S.length := by rw [e]; simp
      have t1 := tot pre
      have t2 := wl c
      have e2 : (pre ++ [c]).flatMap w = pre.flatMap w ++ w c := by simp
      rw [e2] at hJ
      have z4 := z4 c
      generalize pre.flatMap w = G at *
      have hw : (w c).length = (W p r0 rest c).length := by rw [hW]
      generalize w c = H at *
      have lim : G.length + H.length ≤ 16777216 := by omega
      simp -implicitDefEqProofs [l0b_followed_fixed, z4, lim, LIM]
      exact goes (hJ _ ⟨_, by rw [List.map_append]⟩))
  generalize S.flatMap w = G at *
  simp -implicitDefEqProofs [f_followed_fixed, b_followed_fixed, z1, e1, z6])
def goodS (p : Pc) (r0 : Rd) (rest : List Rd) (c : List Tx) : Bool := !(W p r0 rest c).isEmpty
theorem s_suspects (hk : 8 ≤ k) {p : Pc} (hp : PcOk p) {r0 : Rd} {rest : List Rd} (h : Lg (r0 :: rest)) {f : Nat} (hf : f ≤ 10) {names : List Tx} (hn : r0.2.map (·.nm) = names) (hs : FewS names f) (hS : Sets (smalls names f)) (hsh : ∀ F : List (List Tx), F.Sublist (smalls names f) → (∀ c ∈ F, ∀ d ∈ F, subq d c = false) → F.length < 2 ∨ ∀ c ∈ F, c ≠ []) :
    phi (U X) k 72 [eLg (r0 :: rest), eP p, .int f] = ret (.lst ((isort ltN ((smalls names f).filter (mins (smalls names f) (goodS p r0 rest)))).map tNs)) := at_def rfl (by omega) (by
  have z1 := s_check_log (X := X) (k := k - 1) (by omega) h hp (f := f) (by omega) (by omega)
  have z2 := hs.small (X := X) (k := k - 1) (by omega)
  have z3 := s_sources (X := X) (k := k - 1) (by omega) r0.2
  have z4 := fun c => s_led_without (X := X) (k := k - 1) (by omega) hp h c
  have z5 : subD (eLg (r0 :: rest)) (.int 0) = some (eD r0) := sub_h0 rfl
  have h64 := hs.s f (Nat.le_refl _)
  have hg : ∀ c, goodS p r0 rest c = !(W p r0 rest c).isEmpty := fun _ => rfl
  generalize eLg (r0 :: rest) = L at *
  generalize W p r0 rest = w at *
  rw [hn] at z3
  generalize smalls names f = S at *
  generalize goodS p r0 rest = g at *
  obtain ⟨r', e1, s4, s5, s6, s7, rfl⟩ := fo_invJ (L := Lk' X (k - 1)) (s := l0_suspects) (xs := S) (e := tNs) (r0 := [.v L, .v (eP p), .v (.int f), .o [], .none, .none, .none, .none]) rfl (by simp -implicitDefEqProofs [-sub_t, z5, z3, z2])
    (fun pre r => ∃ s4 s5 s6 s7, r = [.v L, .v (eP p), .v (.int f), .o ((pre.filter (mins S g)).map tNs), s4, s5, s6, s7]) ⟨_, _, _, _, rfl⟩ (by
      rintro pre c post r e ⟨s4, s5, s6, s7, rfl⟩ J hJ
      have hpl : pre.length < S.length := by rw [e]; simp
      have hfl : (pre.filter (mins S g)).length ≤ pre.length := filter_len _ _
      rw [← susp_step hS g e] at hJ
      have z4 := z4 c
      have hg := hg c
      generalize pre.filter (mins S g) = F at *
      generalize w c = H at *
      unfold sstep at hJ
      have lim : F.length < 16777216 := by omega
      have hH : g c = true ↔ ¬ H = [] := by rw [hg]; simp
      have hA : (F.any fun o => o.all fun x => decide (x ∈ c)) = true ↔ ¬ ∀ a, a ∈ F → ∃ x, x ∈ a ∧ ¬ x ∈ c := by simp
      by_cases q : (∀ a, a ∈ F → ∃ x, x ∈ a ∧ ¬ x ∈ c) ∧ ¬ H = []
      · rw [if_neg (fun w => hA.mp w q.1), if_pos (hH.mpr q.2)] at hJ
        simp -implicitDefEqProofs [l0b_suspects, z4, lim, LIM]
        rw [if_pos q]
        exact goes (hJ _ ⟨_, _, _, _, by rw [List.map_append]; rfl⟩)
      · have e3 : (if (F.any fun o => o.all fun x => decide (x ∈ c)) = true then F else if g c = true then F ++ [c] else F) = F := by
          by_cases q1 : (F.any fun o => o.all fun x => decide (x ∈ c)) = true
          · rw [if_pos q1]
          · rw [if_neg q1]
            by_cases q2 : g c = true
            · exact absurd ⟨Classical.byContradiction fun w => q1 (hA.mpr w), hH.mp q2⟩ q
            · rw [if_neg q2]
        rw [e3] at hJ
        simp -implicitDefEqProofs [l0b_suspects, z4, lim, LIM]
        rw [if_neg q]
        exact goes (hJ _ ⟨_, _, _, _, rfl⟩))
  have hF := hsh (S.filter (mins S g)) List.filter_sublist (fun c hc d hd => by
    obtain ⟨c1, c2⟩ := List.mem_filter.mp hc
    obtain ⟨d1, d2⟩ := List.mem_filter.mp hd
    cases q : subq d c with
    | false => rfl
    | true =>
      simp only [mins, Bool.and_eq_true, Bool.not_eq_true', List.any_eq_false] at c2 d2
      exact absurd ⟨q, d2.1⟩ (c2.2 d d1))
  generalize S.filter (mins S g) = F at *
  have z6 := b_sortedN hF
  simp -implicitDefEqProofs [f_suspects, b_suspects, z1, e1, z6])
end Lw
end
section
/-! the sets of the drawn names -/
namespace Lw
open Py
variable {X : List Fd} {k : Nat}
def nms (n : Nat) : List Tx := (List.range n).map fun i => [97 + i]
def chs (names : List Tx) (f : Nat) : List (List Tx) := names.foldl (fun F x => F ++ (F.filter fun c => decide (c.length < f)).map fun c => c ++ [x]) [[]]
theorem cases6 {P : Nat → Prop} (h0 : P 0) (h1 : P 1) (h2 : P 2) (h3 : P 3) (h4 : P 4) (h5 : P 5) {n : Nat} (h : n ≤ 5) : P n := by
  have : n = 0 ∨ n = 1 ∨ n = 2 ∨ n = 3 ∨ n = 4 ∨ n = 5 := by omega
  rcases this with rfl | rfl | rfl | rfl | rfl | rfl <;> assumption
theorem few_all : ∀ n, n < 6 → ∀ f, f < 6 → (smalls (nms n) f).length ≤ 64 := by decide +kernel
theorem nd_all : ∀ n, n < 6 → ∀ f, f < 6 → (smalls (nms n) f).Nodup := by decide +kernel
theorem ord_all : ∀ n, n < 6 → ∀ f, f < 6 → (smalls (nms n) f).Pairwise fun a b => subq b a = false := by decide +kernel
theorem len_all : ∀ n, n < 6 → ∀ f, f < 6 → ∀ c ∈ smalls (nms n) f, ∀ d ∈ smalls (nms n) f, subq d c = true → d.length < c.length := by decide +kernel
theorem le_all : ∀ n, n < 6 → ∀ f, f < 6 → ∀ c ∈ smalls (nms n) f, c.length ≤ f := by decide +kernel
theorem perm_all : ∀ n, n < 6 → ∀ f, f < 6 → (chs (nms n) f).isPerm (smalls (nms n) f) = true := by decide +kernel
theorem few_nms {n f : Nat} (hn : n ≤ 5) (hf : f ≤ 5) : FewS (nms n) f := ⟨by omega, by simp [nms]; omega, fun g hg => few_all n (by omega) g (by omega)⟩
theorem sets_nms {n f : Nat} (hn : n ≤ 5) (hf : f ≤ 5) : Sets (smalls (nms n) f) := ⟨nd_all n (by omega) f (by omega), ord_all n (by omega) f (by omega), len_all n (by omega) f (by omega)⟩
theorem perm_nms {n f : Nat} (hn : n ≤ 5) (hf : f ≤ 5) : (chs (nms n) f).Perm (smalls (nms n) f) := List.isPerm_iff.mp (perm_all n (by omega) f (by omega))
theorem short_nms {n f : Nat} (hn : n ≤ 5) (hf : f ≤ 5) (F : List (List Tx)) (hs : F.Sublist (smalls (nms n) f)) (ha : ∀ c ∈ F, ∀ d ∈ F, subq d c = false) : F.length < 2 ∨ ∀ c ∈ F, c ≠ [] := by
  by_cases h : [] ∈ F
  · left
    have all : ∀ d ∈ F, d = [] := fun d hd => by
      have := ha d hd [] h
      cases d with
      | nil => rfl
      | cons a r => simp [subq] at this
    have nd := (nd_all n (by omega) f (by omega)).sublist hs
    match F, all, nd with
    | [], _, _ => simp
    | [_], _, _ => simp
    | a :: b :: r, all, nd =>
      have e1 := all a (by simp)
      have e2 := all b (by simp)
      subst e1 e2
      simp at nd
  · right
    intro c hc e
    subst e
    exact h hc
/-! more liars -/
theorem eq_le {x : Tx} : ∀ {rs : List Rp}, (rs.map (·.nm)).Nodup → (rs.filter fun r => decide (r.nm = x)).length ≤ 1
  | [], _ => by simp
  | r :: rs, h => by
    have h2 := (List.nodup_cons.mp h)
    by_cases q : r.nm = x
    · have e : rs.filter (fun r => decide (r.nm = x)) = [] := by
        rw [List.filter_eq_nil_iff]
        intro s hs e
        exact h2.1 (List.mem_map.mpr ⟨s, hs, by show s.nm = r.nm; rw [q]; simpa using e⟩)
      simp [q, e]
    · have := eq_le (x := x) h2.2
      simpa [q] using this
theorem in_le {rs : List Rp} (h : (rs.map (·.nm)).Nodup) : ∀ c : List Tx, (rs.filter fun r => decide (r.nm ∈ c)).length ≤ c.length
  | [] => by simp
  | x :: c => by
    have h1 := eq_le (x := x) h
    have h2 := in_le h c
    have h3 : (rs.filter fun r => decide (r.nm ∈ x :: c)).length ≤ (rs.filter fun r => decide (r.nm = x)).length + (rs.filter fun r => decide (r.nm ∈ c)).length := by
      clear h h1 h2
      induction rs with
      | nil => simp
      | cons r rs ih =>
        by_cases a : r.nm = x <;> by_cases b : r.nm ∈ c <;> simp_all <;> omega
    simp only [List.length_cons]
    omega
theorem keep_cnt {r : Rd} (h : VR r.2) (c : List Tx) (t : Int) : cnt (keep c r).2 t ≤ cnt r.2 t ∧ r.2.length ≤ (keep c r).2.length + c.length := by
  have h1 := in_le h.nd c
  have h2 : (r.2.filter fun x => decide (x.nm ∉ c)).length + (r.2.filter fun x => decide (x.nm ∈ c)).length = r.2.length := by
    generalize r.2 = rs
    clear h h1
    induction rs with
    | nil => simp
    | cons r rs ih => by_cases b : r.nm ∈ c <;> simp_all <;> omega
  refine ⟨?_, ?_⟩
  · unfold cnt keep
    exact (List.Sublist.filter _ List.filter_sublist).length_le
  · show r.2.length ≤ (r.2.filter fun x => decide (x.nm ∉ c)).length + c.length
    omega
theorem W_wide {p : Pc} (hp : PcOk p) {r0 : Rd} {rest : List Rd} (h : Lg (r0 :: rest)) {c : List Tx} {f : Int} (hc : (c.length : Int) ≤ f) : ∀ t, inR (W p r0 rest c) t → inR (ledS p f r0 rest).2 t := by
  suffices H : ∀ (n : Nat) (post pre : List Rd), pre.length = n → rest = pre ++ post → (ledS p 0 (keep c r0) (pre.map (keep c))).1 = (ledS p f r0 pre).1 ∧ ∀ t, inR (ledS p 0 (keep c r0) (pre.map (keep c))).2 t → inR (ledS p f r0 pre).2 t from (H rest.length [] rest rfl (List.append_nil rest).symm).2
  intro n
  induction n with
  | zero =>
    intro post pre en e
    rw [List.length_eq_zero_iff.mp en]
    refine ⟨rfl, fun t ht => ?_⟩
    change inR (poss (keep c r0).2 0) t at ht
    show inR (poss r0.2 f) t
    have hv := h.vr r0 (by simp)
    rw [(withM_spec (keep_tr hv.tr c) _).2] at ht
    rw [(withM_spec hv.tr _).2]
    have := keep_cnt hv c t
    omega
  | succ n ih =>
    intro post pre' en e
    rcases snoc_cases pre' with rfl | ⟨pre, r, rfl⟩
    · simp at en
    have e' : rest = pre ++ r :: post := by rw [e]; simp
    obtain ⟨ih1, ih2⟩ := ih (r :: post) pre (by simpa using en) e'
    have em : rest.map (keep c) = pre.map (keep c) ++ keep c r :: post.map (keep c) := by rw [e']; simp
    have hv := h.vr r (by rw [e']; simp)
    obtain ⟨a1, a2, _⟩ := ledS_ok hp (f := 0) (h.ldk c) em
    have al := ledS_lt hp (f := 0) (h.ldk c) em
    obtain ⟨b1, b2, _⟩ := ledS_ok hp (f := f) h.ld e'
    have bl := ledS_lt hp (f := f) h.ld e'
    obtain ⟨_, _, s1⟩ := lstep_ok hp (f := 0) a1 a2 al (keep_tr hv.tr c)
    obtain ⟨_, _, s2⟩ := lstep_ok hp (f := f) b1 b2 bl hv.tr
    rw [List.map_append, List.map_singleton, ledS_snoc, ledS_snoc]
    refine ⟨rfl, fun t ht => ?_⟩
    rw [s1] at ht
    rw [s2]
    obtain ⟨⟨t1, u, hu, u1, u2⟩, t2, t3, t4⟩ := ht
    have := keep_cnt hv c t
    rw [ih1] at u1 u2
    exact ⟨⟨t1, u, ih2 u hu, u1, u2⟩, t2, t3, by omega⟩
/-- the names that are kept are the same in all rounds -/
theorem keep_nil_iff {r s : Rd} (e : r.2.map (·.nm) = s.2.map (·.nm)) (c : List Tx) : (keep c r).2.length = (keep c s).2.length := by
  have key : ∀ r : Rd, (keep c r).2.length = ((r.2.map (·.nm)).filter fun x => decide (x ∉ c)).length := fun r => by
    rw [List.filter_map, List.length_map]
    rfl
  rw [key, key, e]
theorem W_low {p : Pc} (hp : PcOk p) (hp4 : p.1 ≤ 4) {r0 : Rd} {rest : List Rd} (h : Lg (r0 :: rest)) (hm : ∀ r ∈ r0 :: rest, r.1 ≤ 20) (hh : ∀ r ∈ r0 :: rest, ∀ x ∈ r.2, x.hi ≤ 100) (c : List Tx) (hne : W p r0 rest c ≠ []) : ∃ t, 0 ≤ t ∧ t ≤ 100 ∧ inR (W p r0 rest c) t := by
  by_cases q : (keep c r0).2.length = 0
  · have hm0 := h.mom r0 (by simp)
    suffices H : ∀ (n : Nat) (post pre : List Rd), pre.length = n → rest = pre ++ post → inR (ledS p 0 (keep c r0) (pre.map (keep c))).2 (p.1 * ((ledS p 0 (keep c r0) (pre.map (keep c))).1 - r0.1)) ∧ r0.1 ≤ (ledS p 0 (keep c r0) (pre.map (keep c))).1 ∧ (ledS p 0 (keep c r0) (pre.map (keep c))).1 ≤ 20 by
      obtain ⟨a, b, d⟩ := H rest.length [] rest rfl (List.append_nil rest).symm
      have b1 : 0 ≤ p.1 * ((ledS p 0 (keep c r0) (rest.map (keep c))).1 - r0.1) := Int.mul_nonneg hp.1 (by omega)
      have b2 : p.1 * ((ledS p 0 (keep c r0) (rest.map (keep c))).1 - r0.1) ≤ 4 * 20 := Int.mul_le_mul hp4 (by omega) (by omega) (by decide)
      exact ⟨_, b1, by omega, a⟩
    intro n
    induction n with
    | zero =>
      intro post pre en e
      rw [List.length_eq_zero_iff.mp en]
      refine ⟨?_, Int.le_refl _, hm r0 (by simp)⟩
      show inR (poss (keep c r0).2 0) (p.1 * (r0.1 - r0.1))
      rw [(withM_spec (keep_tr (h.vr r0 (by simp)).tr c) _).2, Int.sub_self, Int.mul_zero]
      omega
    | succ n ih =>
      intro post pre' en e
      rcases snoc_cases pre' with rfl | ⟨pre, r, rfl⟩
      · simp at en
      have e' : rest = pre ++ r :: post := by rw [e]; simp
      have hr : r ∈ r0 :: rest := by rw [e']; simp
      obtain ⟨i1, i2, i3⟩ := ih (r :: post) pre (by simpa using en) e'
      have em : rest.map (keep c) = pre.map (keep c) ++ keep c r :: post.map (keep c) := by rw [e']; simp
      obtain ⟨a1, a2, _⟩ := ledS_ok hp (f := 0) (h.ldk c) em
      have al := ledS_lt hp (f := 0) (h.ldk c) em
      obtain ⟨_, _, s1⟩ := lstep_ok hp (f := 0) a1 a2 al (keep_tr (h.vr r hr).tr c)
      rw [List.map_append, List.map_singleton, ledS_snoc]
      have hl := keep_nil_iff (h.same r hr r0 (by simp)) c
      have hmr := hm r hr
      have e1 : (keep c r).1 = r.1 := rfl
      rw [e1] at al
      have eg : (lstep p 0 (ledS p 0 (keep c r0) (pre.map (keep c))) (keep c r)).1 = r.1 := rfl
      rw [eg]
      generalize ledS p 0 (keep c r0) (pre.map (keep c)) = s at *
      have b1 : 0 ≤ p.1 * (r.1 - r0.1) := Int.mul_nonneg hp.1 (by omega)
      have b2 : p.1 * (r.1 - r0.1) ≤ 4 * 20 := Int.mul_le_mul hp4 (by omega) (by omega) (by decide)
      have b3 : p.1 * (s.1 - r0.1) + p.1 * (r.1 - s.1) = p.1 * (r.1 - r0.1) := by rw [← Int.mul_add]; congr 1; omega
      have b4 : p.1 * (r.1 - s.1) ≤ p.2 * (r.1 - s.1) := Int.mul_le_mul_of_nonneg_right hp.2.1 (by omega)
      refine ⟨(s1 _).mpr ⟨⟨by omega, _, i1, by rw [e1]; omega, by rw [e1]; omega⟩, by omega, by omega, by omega⟩, by omega, hmr⟩
  · obtain ⟨w1, w2⟩ := W_ok hp h c
    obtain ⟨x, xs, ex⟩ : ∃ x xs, W p r0 rest c = x :: xs := by
      cases e : W p r0 rest c with
      | nil => exact absurd e hne
      | cons x xs => exact ⟨x, xs, rfl⟩
    have hx : x ∈ W p r0 rest c := by rw [ex]; simp
    have hin : inR (W p r0 rest c) x.1 := ⟨x, hx, Int.le_refl _, w1.ne x hx⟩
    have hd := w2 x hx
    refine ⟨x.1, hd.1, ?_, hin⟩
    have fin : ∀ r ∈ r0 :: rest, ((keep c r).2.length : Int) - 0 ≤ cnt (keep c r).2 x.1 → x.1 ≤ 100 := fun r hr hc => by
      have hl := keep_nil_iff (h.same r hr r0 (by simp)) c
      cases e : (keep c r).2.filter (rightB x.1) with
      | nil =>
        unfold cnt at hc
        rw [e, List.length_nil] at hc
        omega
      | cons y ys =>
        have hy : y ∈ (keep c r).2.filter (rightB x.1) := by rw [e]; simp
        obtain ⟨y1, y2⟩ := List.mem_filter.mp hy
        have := hh r hr y (List.mem_filter.mp y1).1
        simp only [rightB, Bool.and_eq_true, decide_eq_true_eq] at y2
        omega
    rcases snoc_cases rest with rfl | ⟨pre, r, rfl⟩
    · have z : inR (poss (keep c r0).2 0) x.1 := hin
      rw [(withM_spec (keep_tr (h.vr r0 (by simp)).tr c) _).2] at z
      exact fin r0 (by simp) z.2.2
    · have em : (pre ++ [r]).map (keep c) = pre.map (keep c) ++ keep c r :: [] := by simp
      obtain ⟨a1, a2, _⟩ := ledS_ok hp (f := 0) (h.ldk c) em
      have al := ledS_lt hp (f := 0) (h.ldk c) em
      have hr : r ∈ r0 :: (pre ++ [r]) := by simp
      obtain ⟨_, _, s1⟩ := lstep_ok hp (f := 0) a1 a2 al (keep_tr (h.vr r hr).tr c)
      have z : inR (ledS p 0 (keep c r0) ((pre ++ [r]).map (keep c))).2 x.1 := hin
      rw [List.map_append, List.map_singleton, ledS_snoc, s1] at z
      exact fin r hr z.2.2.2
end Lw
end
section
/-! what is certain -/
namespace Lw
open Py
variable {X : List Fd} {k : Nat}
theorem s_check_possible {rs : List Rp} (h : VR rs) (hk : 6 ≤ k) {f : Int} (h0 : 0 ≤ f) (h1 : f ≤ 10) (hne : poss rs f ≠ []) : phi (U X) k 32 [eRs rs, .int f] = ret .non := at_def rfl (by omega) (by
  have z1 := h.check (X := X) (k := k - 1) (by omega)
  have z2 := li_ok (X := X) (k := k - 1) (by omega) h0 h1
  have z3 := s_possible_times (X := X) (k := k - 1) (by omega) (Nat.le_trans h.len (by decide)) f
  have e : (withM rs ((rs.length : Int) - f)).isEmpty = false := by
    cases q : withM rs ((rs.length : Int) - f) with
    | nil => exact absurd q hne
    | cons _ _ => rfl
  simp -implicitDefEqProofs [f_check_possible, b_check_possible, z1, z2, z3, e])
def rsets (rs : List Rp) (f : Int) : List Rg := (pcs rs).filter fun p => decide ((rs.length : Int) - f ≤ cnt rs p.1)
theorem s_right_sets (hk : 3 ≤ k) {rs : List Rp} (h : rs.length ≤ 30) (f : Int) : phi (U X) k 33 [eRs rs, .int f] = ret (.lst ((rsets rs f).map fun p => eNs (rnames rs p.1))) := at_def rfl (by omega) (by
  have z1 := s_pieces (X := X) (k := k - 1) (by omega) h
  have z2 := fun t => s_right_names (X := X) (k := k - 1) (by omega) rs t
  simp -implicitDefEqProofs [f_right_sets, b_right_sets, z1, z2, rsets, List.filter_map])
theorem s_surely_right {rs : List Rp} (h : VR rs) (hk : 7 ≤ k) {f : Int} (h0 : 0 ≤ f) (h1 : f ≤ 10) (hne : poss rs f ≠ []) : phi (U X) k 34 [eRs rs, .int f] = ret (eNs ((rs.map (·.nm)).filter fun n => (rsets rs f).all fun p => decide (n ∈ rnames rs p.1))) := at_def rfl (by omega) (by
  have z1 := s_check_possible (X := X) (k := k - 1) h (by omega) h0 h1 hne
  have z2 := s_right_sets (X := X) (k := k - 1) (by omega) (Nat.le_trans h.len (by decide)) f
  have z3 := s_sources (X := X) (k := k - 1) (by omega) rs
  generalize rs.map (·.nm) = ns at *
  simp -implicitDefEqProofs [f_surely_right, b_surely_right, z1, z2, z3])
theorem s_surely_lying {rs : List Rp} (h : VR rs) (hk : 7 ≤ k) {f : Int} (h0 : 0 ≤ f) (h1 : f ≤ 10) (hne : poss rs f ≠ []) : phi (U X) k 35 [eRs rs, .int f] = ret (eNs ((rs.map (·.nm)).filter fun n => !(rsets rs f).any fun p => decide (n ∈ rnames rs p.1))) := at_def rfl (by omega) (by
  have z1 := s_check_possible (X := X) (k := k - 1) h (by omega) h0 h1 hne
  have z2 := s_right_sets (X := X) (k := k - 1) (by omega) (Nat.le_trans h.len (by decide)) f
  have z3 := s_sources (X := X) (k := k - 1) (by omega) rs
  generalize rs.map (·.nm) = ns at *
  simp -implicitDefEqProofs [f_surely_lying, b_surely_lying, z1, z2, z3])
theorem rsets_at {rs : List Rp} (h : TR rs) {f t : Int} (h0 : 0 ≤ t) (h1 : t ≤ 9999) (hc : (rs.length : Int) - f ≤ cnt rs t) : ∃ p ∈ rsets rs f, rnames rs p.1 = rnames rs t := by
  obtain ⟨p, hp, p1, p2⟩ := pcs_cover h h0 h1
  refine ⟨p, List.mem_filter.mpr ⟨hp, decide_eq_true ?_⟩, (pcs_names h hp p1 p2).symm⟩
  rw [← pcs_cnt h hp p1 p2]
  exact hc
theorem chs_snoc (pre : List Tx) (x : Tx) (f : Nat) : chs (pre ++ [x]) f = chs pre f ++ ((chs pre f).filter fun c => decide (c.length < f)).map fun c => c ++ [x] := by simp [chs]
theorem chs_filter (q : Tx → Bool) (f : Nat) : ∀ (n : Nat) (names : List Tx), names.length = n → (names.filter q).length ≤ f → names.filter q ∈ chs names f := by
  intro n
  induction n with
  | zero =>
    intro names hn _
    rw [List.length_eq_zero_iff.mp hn]
    simp [chs]
  | succ n ih =>
    intro names hn hf
    rcases snoc_cases names with rfl | ⟨pre, x, rfl⟩
    · simp at hn
    rw [List.filter_append] at hf ⊢
    rw [chs_snoc]
    cases e : q x with
    | true =>
      simp only [List.filter_cons, e, if_true, List.filter_nil, List.length_append, List.length_singleton] at hf ⊢
      refine List.mem_append.mpr (.inr (List.mem_map.mpr ⟨pre.filter q, List.mem_filter.mpr ⟨ih pre (by simpa using hn) (by omega), decide_eq_true (by omega)⟩, rfl⟩))
    | false =>
      simp only [List.filter_cons, e, List.filter_nil, List.append_nil, Bool.false_eq_true, if_false] at hf ⊢
      exact List.mem_append.mpr (.inl (ih pre (by simpa using hn) hf))
theorem smalls_filter {n f : Nat} (hn : n ≤ 5) (hf : f ≤ 5) (q : Tx → Bool) (h : ((nms n).filter q).length ≤ f) : (nms n).filter q ∈ smalls (nms n) f := (perm_nms hn hf).mem_iff.mp (chs_filter q f _ _ rfl h)
end Lw
end
section
/-! profile -/
namespace Lw
open Py
variable {X : List Fd} {k : Nat}
abbrev Pf := Int × Int × Int
@[simp] abbrev ePf (x : Pf) : D := .tup [.int x.1, .int x.2.1, .int x.2.2]
def pstep (F : List Pf) (p : Rg) (m : Int) : List Pf := match F.getLast? with
  | some y => if y.2.2 = m then F.dropLast ++ [(y.1, p.2, m)] else F ++ [(p.1, p.2, m)]
  | none => [(p.1, p.2, m)]
theorem pstep_nil (p : Rg) (m : Int) : pstep [] p m = [(p.1, p.2, m)] := rfl
theorem pstep_snoc (F : List Pf) (y : Pf) (p : Rg) (m : Int) : pstep (F ++ [y]) p m = if y.2.2 = m then F ++ [(y.1, p.2, m)] else F ++ [y] ++ [(p.1, p.2, m)] := by simp [pstep]
def prof (rs : List Rp) : List Pf := (pcs rs).foldl (fun F p => pstep F p (cnt rs p.1)) []
theorem pstep_len (F : List Pf) (p : Rg) (m : Int) : (pstep F p m).length ≤ F.length + 1 := by
  rcases snoc_cases F with rfl | ⟨G, y, rfl⟩
  · simp [pstep_nil]
  · rw [pstep_snoc]
    split <;> simp
theorem pfold_len (rs : List Rp) : ∀ (ps : List Rg) (F : List Pf), (ps.foldl (fun F p => pstep F p (cnt rs p.1)) F).length ≤ F.length + ps.length
  | [], F => by simp
  | p :: ps, F => by
    have h1 := pfold_len rs ps (pstep F p (cnt rs p.1))
    have h2 := pstep_len F p (cnt rs p.1)
    simp only [List.foldl_cons, List.length_cons]
    omega
theorem s_profile {rs : List Rp} (hv : VR rs) (hk : 6 ≤ k) : phi (U X) k 11 [eRs rs] = ret (.lst ((prof rs).map ePf)) := at_def rfl (by omega) (by
  have z1 := hv.check (X := X) (k := k - 1) (by omega)
  have hl := hv.len
  have z2 := s_pieces (X := X) (k := k - 1) (by omega) (rs := rs) (by omega)
  have z3 := fun t => s_right_names (X := X) (k := k - 1) (by omega) rs t
  obtain ⟨r', h1, s2, s3, s4, rfl⟩ := fo_inv (L := Lk' X (k - 1)) (s := l0_profile) (xs := pcs rs) (e := eG) (r0 := [.v (eRs rs), .o [], .none, .none, .none]) rfl (by simp -implicitDefEqProofs [z2])
    (fun pre r => ∃ s2 s3 s4, r = [.v (eRs rs), .o ((pre.foldl (fun F p => pstep F p (cnt rs p.1)) []).map ePf), s2, s3, s4]) ⟨_, _, _, rfl⟩ (by
      rintro pre p post r e ⟨s2, s3, s4, rfl⟩
      have hl : (pre.foldl (fun F p => pstep F p (cnt rs p.1)) []).length ≤ 1000 := by
        have h1 := pfold_len rs pre []
        have h2 := congrArg List.length e
        have h3 := pcs_len rs
        simp at h1 h2
        omega
      simp only [List.foldl_append, List.foldl_cons, List.foldl_nil]
      generalize pre.foldl (fun F p => pstep F p (cnt rs p.1)) [] = F at hl
      rcases snoc_cases F with rfl | ⟨G, y, rfl⟩
      · rw [pstep_nil]
        simp -implicitDefEqProofs [l0b_profile, z3]
        exact goes ⟨_, _, _, rfl⟩
      · have hl1 : G.length < 16777216 := by simp at hl; omega
        have hl2 : G.length + 1 < 16777216 := by simp at hl; omega
        by_cases hc : y.2.2 = (cnt rs p.1 : Int)
        · rw [pstep_snoc, if_pos hc, List.map_append]
          simp -implicitDefEqProofs [l0b_profile, z3, ixN, hc, hl1, hl2, LIM]
          exact goes ⟨_, _, _, rfl⟩
        · rw [pstep_snoc, if_neg hc, List.map_append, List.map_append]
          simp -implicitDefEqProofs [l0b_profile, z3, ixN, hc, hl1, hl2, LIM]
          exact goes ⟨_, _, _, rfl⟩)
  simp -implicitDefEqProofs [f_profile, b_profile, z1, h1, prof])
/-! what it tells -/
def Ctg : Int → List Rg → Int → Prop
  | s, [], e => s = e
  | s, p :: r, e => p.1 = s ∧ p.1 ≤ p.2 ∧ Ctg (p.2 + 1) r e
theorem strch_ctg : ∀ {bs : List Int} {b : Int}, bs.head? = some b → bs.Pairwise (· < ·) → (∀ x ∈ bs, x ≤ 9999) → Ctg b (strch bs) 10000
  | [], b, h, _, _ => by simp at h
  | [c], b, h, _, hb => by
    simp at h; subst h
    have := hb c (by simp)
    exact ⟨rfl, this, rfl⟩
  | c :: d :: r, b, h, hs, hb => by
    simp at h; subst h
    obtain ⟨s1, s2⟩ := List.pairwise_cons.mp hs
    have hcd := s1 d (by simp)
    refine ⟨rfl, by simp only; omega, ?_⟩
    have := strch_ctg (bs := d :: r) (b := d) rfl s2 fun x hx => hb x (by simp [hx])
    simp only
    rw [show d - 1 + 1 = d by omega]
    exact this
inductive Pfo (rs : List Rp) : List Pf → Int → Prop
  | nil : Pfo rs [] 0
  | snoc {F : List Pf} {e b m : Int} : Pfo rs F e → e ≤ b → (∀ y, F.getLast? = some y → y.2.2 ≠ m) → (∀ t, e ≤ t → t ≤ b → (cnt rs t : Int) = m) → Pfo rs (F ++ [(e, b, m)]) (b + 1)
theorem Pfo.inv {rs : List Rp} {F : List Pf} {y : Pf} {e : Int} (h : Pfo rs (F ++ [y]) e) : Pfo rs F y.1 ∧ y.1 ≤ y.2.1 ∧ e = y.2.1 + 1 ∧ (∀ z, F.getLast? = some z → z.2.2 ≠ y.2.2) ∧ ∀ t, y.1 ≤ t → t ≤ y.2.1 → (cnt rs t : Int) = y.2.2 := by
  generalize hG : F ++ [y] = G at h
  cases h with
  | nil => simp at hG
  | snoc a b c d =>
    obtain ⟨rfl, hy⟩ := List.append_inj' hG rfl
    cases hy
    exact ⟨a, b, rfl, c, d⟩
theorem pfo_fold {rs : List Rp} : ∀ {ps : List Rg} {F : List Pf} {e e' : Int}, Pfo rs F e → Ctg e ps e' → (∀ p ∈ ps, ∀ t, p.1 ≤ t → t ≤ p.2 → cnt rs t = cnt rs p.1) → Pfo rs (ps.foldl (fun F p => pstep F p (cnt rs p.1)) F) e'
  | [], F, e, e', h, hc, _ => by cases hc; exact h
  | p :: ps, F, e, e', h, hc, hp => by
    obtain ⟨c1, c2, c3⟩ := hc
    refine pfo_fold (F := pstep F p (cnt rs p.1)) ?_ c3 fun q hq => hp q (by simp [hq])
    have hq := hp p (by simp)
    rcases snoc_cases F with rfl | ⟨G, y, rfl⟩
    · rw [pstep_nil]
      subst c1
      exact Pfo.snoc (F := []) h c2 (fun y hy => by simp at hy) fun t h1 h2 => by rw [hq t h1 h2]
    · rw [pstep_snoc]
      split
      · rename_i hy
        obtain ⟨a, b, c, d, f⟩ := h.inv
        refine Pfo.snoc a (by omega) (by rw [← hy]; exact d) fun t h1 h2 => ?_
        by_cases ht : t ≤ y.2.1
        · rw [f t h1 ht, hy]
        · rw [hq t (by omega) h2]
      · rename_i hy
        subst c1
        exact Pfo.snoc h c2 (fun z hz => by simp at hz; subst hz; exact hy) fun t h1 h2 => by rw [hq t h1 h2]
theorem prof_ok {rs : List Rp} (h : TR rs) : Pfo rs (prof rs) 10000 := by
  refine pfo_fold .nil ?_ fun p hp t h1 h2 => pcs_cnt h hp h1 h2
  rw [pcs_eq]
  exact strch_ctg (brd_head h) (usort_asc _) fun b hb => (brd_rng h b hb).2
def inP (t : Int) (x : Pf) : Bool := decide (x.1 ≤ t) && decide (t ≤ x.2.1)
theorem Pfo.out {rs : List Rp} {F : List Pf} {e : Int} (h : Pfo rs F e) {t : Int} (ht : e ≤ t) : F.filter (inP t) = [] := by
  induction h with
  | nil => rfl
  | @snoc F e b m a b1 c d ih =>
    rw [List.filter_append, ih (by omega), List.nil_append]
    have : inP t (e, b, m) = false := by simp [inP]; omega
    simp [this]
theorem Pfo.at {rs : List Rp} {F : List Pf} {e : Int} (h : Pfo rs F e) {t : Int} (h0 : 0 ≤ t) (ht : t < e) : (F.filter (inP t)).map (·.2.2) = [(cnt rs t : Int)] := by
  induction h with
  | nil => omega
  | @snoc F e b m a b1 c d ih =>
    rw [List.filter_append, List.map_append]
    by_cases q : t < e
    · have : inP t (e, b, m) = false := by simp [inP]; omega
      rw [ih q]
      simp [this]
    · have : inP t (e, b, m) = true := by simp [inP]; omega
      rw [a.out (by omega)]
      simp [this, d t (by omega) (by omega)]
theorem Pfo.ends {rs : List Rp} {F : List Pf} {e : Int} (h : Pfo rs F e) (he : 0 < e) : ∃ x G y, F = x :: G ∧ x.1 = 0 ∧ F.getLast? = some y ∧ y.2.1 + 1 = e := by
  induction h with
  | nil => omega
  | @snoc F e b m a b1 c d ih =>
    cases a with
    | nil => exact ⟨_, [], _, rfl, rfl, rfl, rfl⟩
    | @snoc F' e' b' m' a' b1' c' d' =>
      obtain ⟨x, G, y, h1, h2, h3, h4⟩ := ih (by
        have : ∀ {F e}, Pfo rs F e → 0 ≤ e := fun {F e} h => by
          induction h with
          | nil => omega
          | snoc _ _ _ _ ih => omega
        have := this a'
        omega)
      exact ⟨x, G ++ [(b' + 1, b, m)], (b' + 1, b, m), by rw [h1]; rfl, h2, by simp, rfl⟩
theorem zip_snoc {α : Type} : ∀ (F : List α) (x : α), (F ++ [x]).zip (tl (F ++ [x])) = F.zip (tl F) ++ (F.getLast?.toList.map fun y => (y, x))
  | [], x => rfl
  | [y], x => rfl
  | y :: z :: F, x => by
    have := zip_snoc (z :: F) x
    simp only [tl, List.cons_append, List.drop_succ_cons, List.drop_zero, List.zip_cons_cons] at this ⊢
    rw [this]
    simp
theorem Pfo.zip {rs : List Rp} {F : List Pf} {e : Int} (h : Pfo rs F e) : ∀ p ∈ F.zip (tl F), p.1.2.1 + 1 = p.2.1 ∧ p.1.2.2 ≠ p.2.2.2 := by
  induction h with
  | nil => intro p hp; simp [tl] at hp
  | @snoc F e b m a b1 c d ih =>
    intro p hp
    rw [zip_snoc] at hp
    rcases List.mem_append.mp hp with hp | hp
    · exact ih p hp
    · obtain ⟨y, hy, rfl⟩ := List.mem_map.mp hp
      have hy' : F.getLast? = some y := by simpa using hy
      refine ⟨?_, c y hy'⟩
      rcases snoc_cases F with rfl | ⟨G, z, rfl⟩
      · simp at hy'
      · simp at hy'
        subst hy'
        exact (a.inv).2.2.1.symm
end Lw
end
section
/-! what is no reports; drawn values of a wrong kind -/
namespace Lw
open Py
variable {X : List Fd} {k : Nat}
abbrev dA : D := .str [97]
def valA : List D := [.non, .int (-1), .bl true, .str [], dA, .int 10000, .lst [], .tup [dA], .tup [dA, .int 1, .int 2], .tup [.tup [dA, .int 2, .int 1]], .tup [.tup [dA, .int 1]], .lst [dA, .int 1, .int 2]]
def valB : List D := [.tup [.tup [dA, .int 1, .int 2], .tup [dA, .int 1, .int 2]], .tup [.tup [.str [98], .int 1, .int 2], .tup [dA, .int 1, .int 2]], .tup [.tup [.str [97, 98, 99, 100], .int 1, .int 2]], .tup [.tup [dA, .int 1, .bl true]]]
def valC : List D := [.tup [.tup [dA, .int 0, .int 10000]], .tup [.lst [dA, .int 1, .int 2]], .tup [.tup [.str [65], .int 1, .int 2]]]
def valL : List D := valA ++ valB ++ valC
theorem valL_no : ∀ i : Nat, i < 19 → areReps (valL.getD i .non) = false ∧ pl 3 (valL.getD i .non) = true := by decide +kernel
theorem sub_val {j : Int} (h0 : 0 ≤ j) (h1 : j < 19) : subD (.lst valL) (.int j) = some (valL.getD j.toNat .non) := by
  obtain ⟨i, rfl⟩ : ∃ i : Nat, j = i := ⟨j.toNat, by omega⟩
  have hl : valL.length = 19 := by decide
  have hi : i < valL.length := by omega
  have e : ixN valL.length (i : Int) = some i := by
    unfold ixN
    rw [if_pos (by omega), if_pos (by omega)]
    simp
  rw [sub_l, e, Option.bind_some, List.getElem?_eq_getElem hi, Int.toNat_natCast, List.getD_eq_getElem?_getD, List.getElem?_eq_getElem hi]
  rfl
theorem s_value (hk : 2 ≤ k) {ns : List Int} (hl : ns.length ≤ 63) {place : Int} (h0 : 0 ≤ place) (h1 : place < 99999) : ∃ i : Nat, i < 19 ∧ phi (U X) k 16 [eScr ns, .int place] = ret (valL.getD i .non) := by
  have p := pick_rng (ns := ns) (i := place) (m := 19) (by decide)
  refine ⟨(pick ns place 19).toNat, by omega, at_def rfl (by omega) ?_⟩
  have z := s_pick (X := X) (k := k - 1) (by omega) hl h0 h1 (m := 19) (by decide)
  have hs := sub_val p.1 p.2
  have e1 : (10 : Nat) ≤ LIM := by decide
  have ev : ∀ (σ : List Slot), evSs (Lk' X (k - 1)) b__law_value (.v (eScr ns) :: .v (.int place) :: σ) = evSs (Lk' X (k - 1)) b__law_value (.v (eScr ns) :: .v (.int place) :: σ) := fun _ => rfl
  have d1 : valL = [.non, .int (-1), .bl true, .str [], dA, .int 10000, .lst [], .tup [dA], .tup [dA, .int 1, .int 2], .tup [.tup [dA, .int 2, .int 1]], .tup [.tup [dA, .int 1]], .lst [dA, .int 1, .int 2]] ++ [.tup [.tup [dA, .int 1, .int 2], .tup [dA, .int 1, .int 2]], .tup [.tup [.str [98], .int 1, .int 2], .tup [dA, .int 1, .int 2]], .tup [.tup [.str [97, 98, 99, 100], .int 1, .int 2]], .tup [.tup [dA, .int 1, .bl true]]] ++ [.tup [.tup [dA, .int 0, .int 10000]], .tup [.lst [dA, .int 1, .int 2]], .tup [.tup [.str [65], .int 1, .int 2]]] := rfl
  rw [d1] at hs
  simp -implicitDefEqProofs [f__law_value, b__law_value, z, LIM]
  simp only [List.cons_append, List.nil_append] at hs
  rw [hs]
  rfl
theorem are_snoc_no {xs : List D} {x : D} (h : isRep x = false) : areReps (.tup (xs ++ [x])) = false := by
  unfold areReps
  simp [h]
theorem are_dup {rs : List Rp} (hd : DRs rs) (h : rs ≠ []) : areReps (.tup (rs.map eR ++ [.tup [dA, .int 1, .int 2]])) = false := by
  cases hr : areReps (.tup (rs.map eR ++ [.tup [dA, .int 1, .int 2]])) with
  | false => rfl
  | true =>
    exfalso
    have e : rs.map eR ++ [.tup [dA, .int 1, .int 2]] = (rs ++ [(⟨[97], 1, 2⟩ : Rp)]).map eR := by simp
    rw [e] at hr
    have hv := VR.of hr
    have hp := hv.pw
    cases rs with
    | nil => exact h rfl
    | cons r rs =>
      have h0 := (hd.at_ 0 r rfl).nm
      have h1 := (List.pairwise_cons.mp hp).1 ⟨[97], 1, 2⟩ (by simp)
      rw [h0] at h1
      simp [txLt] at h1
theorem dn_zz {i : Nat} (h : i < 10) : txLt [97 + i] [122, 122] = true := by
  have : i = 0 ∨ i = 1 ∨ i = 2 ∨ i = 3 ∨ i = 4 ∨ i = 5 ∨ i = 6 ∨ i = 7 ∨ i = 8 ∨ i = 9 := by omega
  rcases this with rfl | rfl | rfl | rfl | rfl | rfl | rfl | rfl | rfl | rfl <;> decide
theorem vr_zz {rs : List Rp} (hd : DRs rs) (hl : rs.length ≤ 9) {l h : Int} (h0 : 0 ≤ l) (h1 : l ≤ h) (h2 : h ≤ 9999) : VR (rs ++ [⟨[122, 122], l, h⟩]) := by
  refine .mk' (by simpa using hl) (fun r hr => ?_) (List.pairwise_append.mpr ⟨hd.vr.pw, List.pairwise_singleton _ _, fun a ha b hb => ?_⟩)
  · rcases List.mem_append.mp hr with hr | hr
    · exact hd.vr.rep r hr
    · rw [List.mem_singleton.mp hr]
      unfold repB
      have : nmB [122, 122] = true := by decide
      simp only [this, Bool.true_and, Bool.and_eq_true, decide_eq_true_eq]
      exact ⟨⟨h0, h1⟩, h2⟩
  · rw [List.mem_singleton.mp hb]
    obtain ⟨i, hi, hn⟩ := hd.mem ha
    rw [hn.nm]
    exact dn_zz hi
theorem nm_inj : ∀ {rs : List Rp} {y z : Rp}, (rs.map (·.nm)).Nodup → y ∈ rs → z ∈ rs → y.nm = z.nm → y = z
  | r :: rs, y, z, hn, hy, hz, e => by
    obtain ⟨h1, h2⟩ := List.nodup_cons.mp hn
    rcases List.mem_cons.mp hy with h2y | h2y
    · rcases List.mem_cons.mp hz with h2z | h2z
      · rw [h2y, h2z]
      · subst h2y
        exact absurd (List.mem_map.mpr ⟨z, h2z, e.symm⟩) h1
    · rcases List.mem_cons.mp hz with h2z | h2z
      · subst h2z
        exact absurd (List.mem_map.mpr ⟨y, h2y, e⟩) h1
      · exact nm_inj h2 h2y h2z e
/-- what the parts of reports give together -/
theorem tog_parts {rs : List Rp} (hv : VR rs) (q : Rp → Bool) : isort ltR (rs.filter q ++ rs.filter fun r => !q r) = rs := by
  have h1 : VR (rs.filter q) := hv.sub List.filter_sublist
  have h2 : VR (rs.filter fun r => !q r) := hv.sub List.filter_sublist
  have hlen : (rs.filter q).length + (rs.filter fun r => !q r).length = rs.length := by
    induction rs with
    | nil => rfl
    | cons r rs ih =>
      have := ih hv.tail (hv.tail.sub List.filter_sublist) (hv.tail.sub List.filter_sublist)
      cases h : q r <;> simp [h] <;> omega
  have hv10 := hv.len
  refine VR.uniq (sort_VR (by rw [List.length_append]; omega) (fun r hr => ?_) ?_) hv fun r => ?_
  · rcases List.mem_append.mp hr with hr | hr
    · exact h1.rep r hr
    · exact h2.rep r hr
  · rw [List.map_append, List.nodup_append]
    refine ⟨h1.nd, h2.nd, fun a ha b hb e => ?_⟩
    obtain ⟨r, hr, rfl⟩ := List.mem_map.mp ha
    obtain ⟨s, hs, hs2⟩ := List.mem_map.mp hb
    obtain ⟨r1, r2⟩ := List.mem_filter.mp hr
    obtain ⟨s1, s2⟩ := List.mem_filter.mp hs
    have : r = s := by
      have hn := hv.nd
      exact nm_inj hn r1 s1 (e.trans hs2.symm)
    subst this
    rw [r2] at s2
    cases s2
  · rw [isort_mem, List.mem_append, List.mem_filter, List.mem_filter]
    constructor
    · rintro (h | h) <;> exact h.1
    · intro h
      by_cases hq : q r = true
      · exact .inl ⟨h, hq⟩
      · exact .inr ⟨h, by simp [hq]⟩
end Lw
end
section
/-! another way of drawing -/
namespace Lw
open Py
variable {X : List Fd} {k : Nat}
def dwLoop : Nat → Int → Int → Int
  | 0, r, _ => r
  | n + 1, r, a => if 0 < r ∧ 0 < a then dwLoop n (r / 1000000) (a - 1) else r
abbrev dwC : E := .and (.cmp .gt (.var 5) (.cst (.int 0))) (.cmp .gt (.var 4) (.cst (.int 0)))
theorem dw_whl (L : Lk) (s0 s1 s2 s3 : Slot) : ∀ (n : Nat) (r a : Int), a < n → 0 < n → ∃ s6, whileS n (ev L dwC) (evSs L l0b__law_drawn) [s0, s1, s2, s3, .v (.int a), .v (.int r)] = nextS [s0, s1, s2, s3, s6, .v (.int (dwLoop n r a))]
  | 0, r, a, h, h0 => absurd h0 (by decide)
  | n + 1, r, a, h, h0 => by
    by_cases h1 : 0 < r ∧ 0 < a
    · obtain ⟨s6, e⟩ := dw_whl L s0 s1 s2 s3 n (r / 1000000) (a - 1) (by omega) (by omega)
      refine ⟨s6, ?_⟩
      have hb : evSs L l0b__law_drawn [s0, s1, s2, s3, .v (.int a), .v (.int r)] = nextS [s0, s1, s2, s3, .v (.int (a - 1)), .v (.int (r / 1000000))] := by simp -implicitDefEqProofs [l0b__law_drawn]
      rw [whileS]
      simp -implicitDefEqProofs [h1, hb, e, dwLoop]
    · refine ⟨.v (.int a), ?_⟩
      rw [whileS]
      have e : dwLoop (n + 1) r a = r := by rw [dwLoop, if_neg h1]
      rw [e]
      by_cases h2 : 0 < r
      · have h3 : ¬ 0 < a := fun z => h1 ⟨h2, z⟩
        simp -implicitDefEqProofs [h2, h3]
      · simp -implicitDefEqProofs [h2]
def dwCell (ns : List Int) (i : Int) : Int := ns.getD (i % (ns.length : Int)).toNat 0
def dwMix (c i m : Int) : Int :=
  let d := (c % 2147483563 * 69069 + 104723 * (i + 1)) % 2147483563
  let e := (d * d + d / 3) % 2147483399
  (e * e + e / 7) % 2147483647 / 11 % m
def dwRest (ns : List Int) (i : Int) : Int := dwLoop 100000 (dwCell ns i / 1000000000000000000) (i / (ns.length : Int))
/-- the drawn number -/
def drw (ns : List Int) (i m : Int) : Int := if ns = [] then dwMix (7 * i) i m else if (1000000000000000000 ≤ dwCell ns i ∧ i / (ns.length : Int) < 60) ∧ 0 < dwRest ns i then dwRest ns i % 1000000 % m else dwMix (dwCell ns i + 6553 * (i / (ns.length : Int))) i m
theorem drw_rng {ns : List Int} {i m : Int} (hm : 0 < m) : 0 ≤ drw ns i m ∧ drw ns i m < m := by
  unfold drw dwMix
  split
  · exact ⟨Int.emod_nonneg _ (by omega), Int.emod_lt_of_pos _ hm⟩
  · split
    · exact ⟨Int.emod_nonneg _ (by omega), Int.emod_lt_of_pos _ hm⟩
    · exact ⟨Int.emod_nonneg _ (by omega), Int.emod_lt_of_pos _ hm⟩
theorem s_drawn (hk : 1 ≤ k) {ns : List Int} (hl : ns.length ≤ 63) {i m : Int} (h0 : 0 ≤ i) (h1 : i < 99999) (hm : 0 < m) : phi (U X) k 88 [eScr ns, .int i, .int m] = ret (.int (drw ns i m)) := at_def rfl (by omega) (by
  have hsc : eqD (.scr (ns.map .int)) (.lst []) = ns.isEmpty := by rw [eqD]; simp
  have hp : binD .pow (.int 10) (.int 18) = some (.int 1000000000000000000) := by rw [binD]; simp [small]
  have s7 : small 7 = true := by decide
  have sm1 : small 69069 = true := by decide
  have sm2 : small 104723 = true := by decide
  have sm3 : small 6553 = true := by decide
  have sm4 : ∀ c : Int, small (c % 2147483563) = true := fun c => small_mod _ _ (by decide) (by decide)
  have sm5 : ∀ c : Int, small (c % 2147483399) = true := fun c => small_mod _ _ (by decide) (by decide)
  cases hns : ns with
  | nil =>
    subst hns
    simp -implicitDefEqProofs [f__law_drawn, b__law_drawn, hsc, s7, sm1, sm2, sm3, sm4, sm5, hm, drw, dwMix]
  | cons a r =>
    rw [← hns]
    have hlen : (0 : Int) < (ns.length : Int) := by rw [hns]; simp
    have hl63 : (ns.length : Int) < 18446744073709551616 := by omega
    have hne : ns.isEmpty = false := by rw [hns]; rfl
    have hne2 : ns ≠ [] := by rw [hns]; simp
    have e1 := Int.emod_nonneg i (show (ns.length : Int) ≠ 0 by omega)
    have e2 := Int.emod_lt_of_pos i hlen
    have e3 : (i % (ns.length : Int)).toNat < ns.length := by omega
    have es : subD (.scr (ns.map .int)) (.int (i % (ns.length : Int))) = some (.int (dwCell ns i)) := by
      rw [subD]
      unfold ixN dwCell
      rw [List.length_map, if_pos e1, if_pos e2]
      simp only [Option.bind_some, List.getElem?_map, List.getD_eq_getElem?_getD]
      rw [List.getElem?_eq_getElem e3]
      rfl
    have hq0 : 0 ≤ i / (ns.length : Int) := Int.ediv_nonneg h0 (by omega)
    by_cases hb : 1000000000000000000 ≤ dwCell ns i ∧ i / (ns.length : Int) < 60
    · obtain ⟨s6, hw⟩ := dw_whl (Lk' X (k - 1)) (.v (eScr ns)) (.v (.int i)) (.v (.int m)) (.v (.int (dwCell ns i))) 100000 (dwCell ns i / 1000000000000000000) (i / (ns.length : Int)) (by omega) (by decide)
      have hw2 : evS (Lk' X (k - 1)) l0__law_drawn [.v (eScr ns), .v (.int i), .v (.int m), .v (.int (dwCell ns i)), .v (.int (i / (ns.length : Int))), .v (.int (dwCell ns i / 1000000000000000000))] = nextS [.v (eScr ns), .v (.int i), .v (.int m), .v (.int (dwCell ns i)), s6, .v (.int (dwRest ns i))] := by
        rw [l0__law_drawn, evS_whl]
        exact hw
      have ed : drw ns i m = if 0 < dwRest ns i then dwRest ns i % 1000000 % m else dwMix (dwCell ns i + 6553 * (i / (ns.length : Int))) i m := by
        unfold drw
        rw [if_neg hne2]
        by_cases z : 0 < dwRest ns i
        · rw [if_pos ⟨hb, z⟩, if_pos z]
        · rw [if_neg (fun q => z q.2), if_neg z]
      rw [ed]
      have hlN : 0 < ns.length := by omega
      by_cases z : 0 < dwRest ns i
      · simp -implicitDefEqProofs [f__law_drawn, b__law_drawn, hsc, hne, es, hlen, hlN, hl63, hp, hb.1, hb.2, hw2, s7, sm1, sm2, sm3, sm4, sm5, hm, z]
      · simp -implicitDefEqProofs [f__law_drawn, b__law_drawn, hsc, hne, es, hlen, hlN, hl63, hp, hb.1, hb.2, hw2, s7, sm1, sm2, sm3, sm4, sm5, hm, z, dwMix]
    · have ed : drw ns i m = dwMix (dwCell ns i + 6553 * (i / (ns.length : Int))) i m := by
        unfold drw
        rw [if_neg hne2, if_neg (fun q => hb q.1)]
      rw [ed]
      have hlN : 0 < ns.length := by omega
      have hb' : 1000000000000000000 ≤ dwCell ns i → 60 ≤ i / (ns.length : Int) := fun q => Int.not_lt.mp fun z => hb ⟨q, z⟩
      by_cases c1 : 1000000000000000000 ≤ dwCell ns i
      · have c2 : ¬ i / (ns.length : Int) < 60 := by have := hb' c1; omega
        simp -implicitDefEqProofs [f__law_drawn, b__law_drawn, hsc, hne, es, hlen, hlN, hl63, hp, c1, c2, s7, sm1, sm2, sm3, sm4, sm5, hm, dwMix]
      · simp -implicitDefEqProofs [f__law_drawn, b__law_drawn, hsc, hne, es, hlen, hlN, hl63, hp, c1, s7, sm1, sm2, sm3, sm4, sm5, hm, dwMix])
end Lw
end
section
/-! drawn reports in another way; the possible times by borders -/
namespace Lw
open Py
variable {X : List Fd} {k : Nat}
def lrep2 (ns : List Int) (place : Int) (i : Nat) : Rp :=
  let h := place + 1 + 3 * (i : Int)
  let low := drw ns h 12 * 3
  if drw ns (h + 2) 9 = 0 then ⟨[97 + i], 9960 + low, 9999⟩ else ⟨[97 + i], low, low + drw ns (h + 1) 25⟩
def lreps2 (ns : List Int) (place most : Int) : List Rp := (List.range (drw ns place (most + 1)).toNat).map (lrep2 ns place)
/-- reports whose names are a, b, .. -/
structure Nx (rs : List Rp) : Prop where
  len : rs.length ≤ 10
  nm : ∀ i r, rs[i]? = some r → r.nm = [97 + i]
  tr : TR rs
theorem Nx.vr {rs : List Rp} (h : Nx rs) : VR rs := by
  refine .mk' h.len (fun r hr => ?_) ?_
  · obtain ⟨i, hi⟩ := List.getElem?_of_mem hr
    have := (List.getElem?_eq_some_iff.mp hi).1
    have := h.len
    have t := h.tr.t r hr
    unfold repB
    rw [h.nm i r hi, nm_ok (by omega)]
    simp only [Bool.true_and, Bool.and_eq_true, decide_eq_true_eq]
    exact ⟨⟨t.1, t.2.1⟩, t.2.2⟩
  · rw [List.pairwise_iff_getElem]
    intro i j hi hj hij
    rw [h.nm i _ (List.getElem?_eq_getElem hi), h.nm j _ (List.getElem?_eq_getElem hj), txLt_one]
    exact decide_eq_true (by omega)
theorem Nx.names {rs : List Rp} (h : Nx rs) : rs.map (·.nm) = nms rs.length := by
  apply List.ext_getElem?
  intro i
  unfold nms
  rw [List.getElem?_map, List.getElem?_map]
  by_cases hi : i < rs.length
  · rw [List.getElem?_range hi, List.getElem?_eq_getElem hi]
    simp [h.nm i _ (List.getElem?_eq_getElem hi)]
  · rw [List.getElem?_eq_none (by omega), List.getElem?_eq_none (by simpa using hi)]
    rfl
theorem small3 : small 3 = true := by decide
theorem s_reports2 (hk : 2 ≤ k) {ns : List Int} (hl : ns.length ≤ 63) {place most : Int} (h0 : 0 ≤ place) (h1 : place < 9000) (h2 : 0 ≤ most) (h3 : most ≤ 10) : phi (U X) k 98 [eScr ns, .int place, .int most] = ret (eRs (lreps2 ns place most)) := at_def rfl (by omega) (by
  have hp : ∀ {i m : Int}, 0 ≤ i → i < 99999 → 0 < m → phi (U X) (k - 1) 88 [eScr ns, .int i, .int m] = ret (.int (drw ns i m)) := fun a b c => s_drawn (by omega) hl a b c
  have hn := drw_rng (ns := ns) (i := place) (m := most + 1) (by omega)
  have hit : evi (Lk' X (k - 1)) (.rng1 (.call 88 (.cons (.var 0) (.cons (.var 1) (.cons (.bin .add (.var 2) (.cst (.int 1))) .nil))))) [.v (eScr ns), .v (.int place), .v (.int most), .o [], .none, .none, .none, .none] = ret ((List.range (drw ns place (most + 1)).toNat).map fun i : Nat => D.int (0 + i)) := by
    have e := hp h0 (show place < 99999 by omega) (show 0 < most + 1 by omega)
    have hr : rngOk 0 (drw ns place (most + 1)) = true := by unfold rngOk; simp; omega
    simp -implicitDefEqProofs [e, rngD, hr]
  obtain ⟨r', e1, s4, s5, s6, s7, rfl⟩ := fo_inv (L := Lk' X (k - 1)) (s := l0__law_reports_v2) rfl hit
    (fun pre r => ∃ s4 s5 s6 s7, r = [.v (eScr ns), .v (.int place), .v (.int most), .o (pre.map fun i => eR (lrep2 ns place i)), s4, s5, s6, s7]) ⟨_, _, _, _, rfl⟩ (by
      rintro pre i post r e ⟨s4, s5, s6, s7, rfl⟩
      have hi : i < (drw ns place (most + 1)).toNat := by
        have : i ∈ List.range (drw ns place (most + 1)).toNat := by rw [e]; simp
        simpa using this
      have hlp : pre.length < 16777216 := by
        have := congrArg List.length e
        simp at this
        omega
      have hi2 : i < 10 := by omega
      have z1 := hp (i := place + 1 + 3 * (i : Int)) (m := 12) (by omega) (by omega) (by decide)
      have z2 := hp (i := place + 1 + 3 * (i : Int) + 1) (m := 25) (by omega) (by omega) (by decide)
      have z3 := hp (i := place + 1 + 3 * (i : Int) + 2) (m := 9) (by omega) (by omega) (by decide)
      have q2 := sub_abc hi2
      by_cases k0 : drw ns (place + 1 + 3 * (i : Int) + 2) 9 = 0
      · have e : lrep2 ns place i = ⟨[97 + i], 9960 + drw ns (place + 1 + 3 * (i : Int)) 12 * 3, 9999⟩ := by simp [lrep2, k0]
        simp -implicitDefEqProofs [l0b__law_reports_v2, small3, z1, z2, z3, q2, hlp, k0, e]
        exact goes ⟨_, _, _, _, rfl⟩
      · have e : lrep2 ns place i = ⟨[97 + i], drw ns (place + 1 + 3 * (i : Int)) 12 * 3, drw ns (place + 1 + 3 * (i : Int)) 12 * 3 + drw ns (place + 1 + 3 * (i : Int) + 1) 25⟩ := by simp [lrep2, k0]
        simp -implicitDefEqProofs [l0b__law_reports_v2, small3, z1, z2, z3, q2, hlp, k0, e]
        exact goes ⟨_, _, _, _, rfl⟩)
  simp -implicitDefEqProofs [f__law_reports_v2, b__law_reports_v2, e1, lreps2])
theorem lreps2_nx {ns : List Int} {place most : Int} (h : 0 ≤ most) (h2 : most ≤ 10) : Nx (lreps2 ns place most) ∧ ((lreps2 ns place most).length : Int) ≤ most := by
  have hn := drw_rng (ns := ns) (i := place) (m := most + 1) (by omega)
  have hl : (lreps2 ns place most).length = (drw ns place (most + 1)).toNat := by simp [lreps2]
  refine ⟨⟨by omega, fun i r hr => ?_, ⟨fun r hr => ?_⟩⟩, by omega⟩
  · unfold lreps2 at hr
    rw [List.getElem?_map] at hr
    obtain ⟨j, h1, rfl⟩ := Option.map_eq_some_iff.mp hr
    rw [List.getElem?_range] at h1
    · cases h1
      unfold lrep2
      simp only
      split <;> rfl
    · have := (List.getElem?_eq_some_iff.mp h1).1
      simpa using this
  · obtain ⟨i, hi, rfl⟩ := List.mem_map.mp hr
    have a1 := drw_rng (ns := ns) (i := place + 1 + 3 * (i : Int)) (m := 12) (by decide)
    have a2 := drw_rng (ns := ns) (i := place + 1 + 3 * (i : Int) + 1) (m := 25) (by decide)
    unfold lrep2
    simp only
    split <;> (simp only; omega)
/-! ### by borders -/
def prs : List Int → List Rg
  | [] => []
  | [b] => [(b, 10000)]
  | b :: c :: r => (b, c) :: prs (c :: r)
theorem prs_eq : ∀ bs : List Int, bs.zip (tl bs ++ [10000]) = prs bs
  | [] => rfl
  | [b] => rfl
  | b :: c :: r => by
    have := prs_eq (c :: r)
    simp only [tl, List.drop_succ_cons, List.drop_zero] at this ⊢
    simp only [List.cons_append, List.zip_cons_cons, prs]
    rw [← this]
/-- one turn -/
def gstep (g : Int → Bool) (F : List Rg) (p : Rg) : List Rg := if p.1 < 10000 ∧ p.1 < p.2 ∧ g p.1 = true then (match F.getLast? with
  | some b => if b.2 = p.1 - 1 then F.dropLast ++ [(b.1, p.2 - 1)] else F ++ [(p.1, p.2 - 1)]
  | none => F ++ [(p.1, p.2 - 1)]) else F
structure GInv (g : Int → Bool) (F : List Rg) (e : Int) : Prop where
  neat : Neat F
  lt : ∀ p ∈ F, p.2 < e
  iff : ∀ t, inR F t ↔ 0 ≤ t ∧ t < e ∧ g t = true
theorem gstep_ok {g : Int → Bool} {F : List Rg} {p : Rg} (h : GInv g F p.1) (h0 : 0 ≤ p.1) (h1 : p.1 ≤ p.2) (h2 : p.2 ≤ 10000) (hs : ∀ t, p.1 ≤ t → t < p.2 → g t = g p.1) : GInv g (gstep g F p) p.2 := by
  unfold gstep
  by_cases c : p.1 < 10000 ∧ p.1 < p.2 ∧ g p.1 = true
  · rw [if_pos c]
    obtain ⟨c1, c2, c3⟩ := c
    rcases snoc_cases F with rfl | ⟨ys, b, rfl⟩
    · simp only [List.getLast?_nil, List.nil_append]
      refine ⟨⟨List.pairwise_singleton _ _, fun q hq => by rw [List.mem_singleton.mp hq]; simp only; omega⟩, fun q hq => by rw [List.mem_singleton.mp hq]; simp only; omega, fun t => ?_⟩
      rw [inR_cons]
      have h3 := h.iff t
      constructor
      · rintro (⟨q1, q2⟩ | q)
        · simp only at q1 q2
          exact ⟨by omega, by omega, by rw [hs t q1 (by omega)]; exact c3⟩
        · exact absurd q (inR_nil t)
      · rintro ⟨q1, q2, q3⟩
        by_cases q : t < p.1
        · exact .inr (h3.mpr ⟨q1, q, q3⟩)
        · exact .inl ⟨by simp only; omega, by simp only; omega⟩
    · simp only [List.getLast?_append, List.getLast?_singleton, Option.some_or, List.dropLast_concat]
      obtain ⟨n1, n2, n3⟩ := h.neat.snoc
      have hb := h.lt b (by simp)
      have h3 := h.iff
      by_cases d : b.2 = p.1 - 1
      · rw [if_pos d]
        refine ⟨n1.mk_snoc (fun y hy => by have := n2 y hy; simp only; omega) (by simp only; omega), fun q hq => ?_, fun t => ?_⟩
        · rcases List.mem_append.mp hq with hq | hq
          · have := h.lt q (by simp [hq]); omega
          · rw [List.mem_singleton.mp hq]; simp only; omega
        · have h4 := h3 t
          rw [inR_app, inR_cons] at h4
          rw [inR_app, inR_cons]
          simp only [inR_nil, or_false] at h4 ⊢
          constructor
          · rintro (q | ⟨q1, q2⟩)
            · have := h4.mp (.inl q); exact ⟨this.1, by omega, this.2.2⟩
            · by_cases q : t < p.1
              · have := h4.mp (.inr ⟨q1, by omega⟩); exact ⟨this.1, by omega, this.2.2⟩
              · exact ⟨by omega, by omega, by rw [hs t (by omega) (by omega)]; exact c3⟩
          · rintro ⟨q1, q2, q3⟩
            by_cases q : t < p.1
            · rcases h4.mpr ⟨q1, q, q3⟩ with z | z
              · exact .inl z
              · exact .inr ⟨z.1, by omega⟩
            · exact .inr ⟨by omega, by omega⟩
      · rw [if_neg d]
        refine ⟨h.neat.mk_snoc (fun y hy => ?_) (by simp only; omega), fun q hq => ?_, fun t => ?_⟩
        · simp only
          rcases List.mem_append.mp hy with hy | hy
          · have := n2 y hy; omega
          · rw [List.mem_singleton.mp hy]; omega
        · rcases List.mem_append.mp hq with hq | hq
          · have := h.lt q hq; omega
          · rw [List.mem_singleton.mp hq]; simp only; omega
        · have h4 := h3 t
          rw [inR_app (ps := ys ++ [b]), inR_cons]
          simp only [inR_nil, or_false]
          rw [h4]
          constructor
          · rintro (q | ⟨q1, q2⟩)
            · exact ⟨q.1, by omega, q.2.2⟩
            · exact ⟨by omega, by omega, by rw [hs t (by omega) (by omega)]; exact c3⟩
          · rintro ⟨q1, q2, q3⟩
            by_cases q : t < p.1
            · exact .inl ⟨q1, q, q3⟩
            · exact .inr ⟨by omega, by omega⟩
  · rw [if_neg c]
    refine ⟨h.neat, fun q hq => by have := h.lt q hq; omega, fun t => ?_⟩
    rw [h.iff t]
    constructor
    · rintro ⟨q1, q2, q3⟩; exact ⟨q1, by omega, q3⟩
    · rintro ⟨q1, q2, q3⟩
      refine ⟨q1, ?_, q3⟩
      apply Int.not_le.mp
      intro q
      rw [hs t q q2] at q3
      exact c ⟨by omega, by omega, q3⟩
theorem gfold {g : Int → Bool} : ∀ {bs : List Int} {b : Int} {F : List Rg}, bs.head? = some b → bs.Pairwise (· < ·) → (∀ x ∈ bs, 0 ≤ x ∧ x ≤ 10000) → (∀ s t, b ≤ s → s ≤ t → t < 10000 → (∀ x ∈ bs, x ≤ s ∨ t < x) → g t = g s) → GInv g F b → GInv g ((prs bs).foldl (gstep g) F) 10000
  | [], b, F, h, _, _, _, _ => by simp at h
  | [c], b, F, h, hs, hr, hg, hi => by
    simp at h; subst h
    have := hr c (by simp)
    exact gstep_ok (p := (c, 10000)) hi this.1 this.2 (Int.le_refl _) fun t t1 t2 => hg c t (Int.le_refl _) t1 t2 fun x hx => by rw [List.mem_singleton.mp hx]; exact .inl (Int.le_refl _)
  | c :: d :: r, b, F, h, hs, hr, hg, hi => by
    simp at h; subst h
    obtain ⟨s1, s2⟩ := List.pairwise_cons.mp hs
    have rc := hr c (by simp)
    have rd := hr d (by simp)
    have cd := s1 d (by simp)
    have st := gstep_ok (p := (c, d)) hi rc.1 (by simp only; omega) rd.2 fun t t1 t2 => hg c t (Int.le_refl _) t1 (by simp only at t2; omega) fun x hx => by
      simp only at t1 t2
      rcases List.mem_cons.mp hx with rfl | hx
      · exact .inl (Int.le_refl _)
      · rcases List.mem_cons.mp hx with rfl | hx
        · exact .inr t2
        · have := (List.pairwise_cons.mp s2).1 x hx
          exact .inr (by omega)
    exact gfold (bs := d :: r) rfl s2 (fun x hx => hr x (by simp [hx])) (fun s t t1 t2 t3 t4 => hg s t (by omega) t2 t3 fun x hx => by
      rcases List.mem_cons.mp hx with rfl | hx
      · exact .inl (by omega)
      · exact t4 x hx) st
def pends (rs : List Rp) : List Int := [0] ++ rs.map (·.lo) ++ rs.map (fun r => r.hi + 1)
def possG (rs : List Rp) (f : Int) : List Rg := (prs (usort (pends rs))).foldl (gstep fun t => decide ((rs.length : Int) - f ≤ cnt rs t)) []
theorem possG_eq {rs : List Rp} (h : TR rs) (f : Int) : possG rs f = poss rs f := by
  have m0 : ∀ x, x ∈ usort (pends rs) ↔ x = 0 ∨ (∃ r ∈ rs, r.lo = x) ∨ ∃ r ∈ rs, r.hi + 1 = x := fun x => by rw [usort_mem]; simp [pends]
  have rg : ∀ x ∈ usort (pends rs), 0 ≤ x ∧ x ≤ 10000 := fun x hx => by
    rcases (m0 x).mp hx with rfl | ⟨r, hr, rfl⟩ | ⟨r, hr, rfl⟩
    · omega
    · have := h.t r hr; omega
    · have := h.t r hr; omega
  have hd := asc_head (usort_asc (pends rs)) ((m0 0).mpr (.inl rfl)) fun x hx => (rg x hx).1
  have key := gfold (g := fun t => decide ((rs.length : Int) - f ≤ cnt rs t)) (F := []) hd (usort_asc _) rg (fun s t t1 t2 t3 t4 => by
    have : rs.filter (rightB t) = rs.filter (rightB s) := List.filter_congr fun r hr => by
      have a1 := t4 r.lo ((m0 _).mpr (.inr (.inl ⟨r, hr, rfl⟩)))
      have a2 := t4 (r.hi + 1) ((m0 _).mpr (.inr (.inr ⟨r, hr, rfl⟩)))
      unfold rightB
      have e1 : decide (r.lo ≤ t) = decide (r.lo ≤ s) := by
        by_cases q : r.lo ≤ s
        · rw [decide_eq_true q, decide_eq_true (by omega)]
        · rw [decide_eq_false q, decide_eq_false (by omega)]
      have e2 : decide (t ≤ r.hi) = decide (s ≤ r.hi) := by
        by_cases q : s ≤ r.hi
        · rw [decide_eq_true q, decide_eq_true (by omega)]
        · rw [decide_eq_false q, decide_eq_false (by omega)]
      rw [e1, e2]
    show decide ((rs.length : Int) - f ≤ ((rs.filter (rightB t)).length : Int)) = decide ((rs.length : Int) - f ≤ ((rs.filter (rightB s)).length : Int))
    rw [this]) ⟨.nil, by simp, fun t => ⟨fun q => absurd q (inR_nil t), fun q => by omega⟩⟩
  obtain ⟨w1, w2⟩ := withM_spec h ((rs.length : Int) - f)
  refine neat_uniq key.neat w1 fun t => ?_
  show inR (List.foldl _ [] _) t ↔ _
  rw [key.iff t, w2 t, decide_eq_true_eq]
  constructor
  · rintro ⟨a, b, c⟩; exact ⟨a, by omega, c⟩
  · rintro ⟨a, b, c⟩; exact ⟨a, by omega, c⟩
theorem cnt_not (rs : List Rp) (t : Int) : (rs.filter fun r => !(rightB t r)).length + cnt rs t = rs.length := by
  unfold cnt
  induction rs with
  | nil => rfl
  | cons r rs ih => cases h : rightB t r <;> simp [h] <;> omega
theorem i20 : ixN 2 0 = some 0 := rfl
theorem i21 : ixN 2 1 = some 1 := rfl
theorem gstep_len (g : Int → Bool) (F : List Rg) (p : Rg) : (gstep g F p).length ≤ F.length + 1 := by
  unfold gstep
  split
  · split
    · split <;> simp <;> omega
    · simp
  · omega
theorem gfold_len (g : Int → Bool) : ∀ (ps : List Rg) (F : List Rg), (ps.foldl (gstep g) F).length ≤ F.length + ps.length
  | [], F => by simp
  | p :: ps, F => by
    have h1 := gfold_len g ps (gstep g F p)
    have h2 := gstep_len g F p
    rw [List.foldl_cons, List.length_cons]
    omega
theorem s_law_possible (hk : 1 ≤ k) {rs : List Rp} (h : TR rs) (hl : rs.length ≤ 30) (f : Int) : phi (U X) k 99 [eRs rs, .int f] = ret (eGs (poss rs f)) := at_def rfl (by omega) (by
  rw [← possG_eq h]
  have h4 : (pends rs).length < 64 := by simp [pends]; omega
  have e2 := b_ssetI (pends rs)
  rw [if_pos h4] at e2
  have e3 : (D.int 0 :: (rs.map (fun r => D.int r.lo) ++ rs.map fun r => D.int (r.hi + 1))) = (pends rs).map D.int := by simp [pends]
  rw [← e3] at e2
  have hb : (usort (pends rs)).length ≤ 61 := by
    have h1 := usort_len (pends rs)
    have : (pends rs).length ≤ 61 := by simp [pends]; omega
    omega
  have l1 : rs.length + 1 ≤ 16777216 := by omega
  have l1' : 1 + rs.length ≤ 16777216 := by omega
  have l2 : rs.length + 1 + rs.length ≤ 16777216 := by omega
  have l3 : (usort (pends rs)).length - 1 + 1 ≤ 16777216 := by omega
  have l4 : (usort (pends rs)).length ≤ 16777216 := by omega
  unfold possG
  generalize usort (pends rs) = bs at *
  have ez : (tl bs).map D.int ++ [D.int 10000] = (tl bs ++ [10000]).map D.int := by simp
  have pl : (prs bs).length ≤ bs.length := by rw [← prs_eq, List.length_zip]; exact Nat.min_le_left _ _
  obtain ⟨r', h1, s4, s5, s6, s7, s8, s9, rfl⟩ := fo_invJ (L := Lk' X (k - 1)) (s := l0__law_possible) (xs := prs bs) (e := fun p : Rg => D.tup [.int p.1, .int p.2]) (r0 := [.v (eRs rs), .v (.int f), .v (.lst (bs.map .int)), .o [], .none, .none, .none, .none, .none, .none]) rfl (by
      rw [← prs_eq]
      simp -implicitDefEqProofs [l3, -List.map_append]
      rw [ez]
      simp -implicitDefEqProofs [l4, -List.map_append])
    (fun pre r => ∃ s4 s5 s6 s7 s8 s9, r = [.v (eRs rs), .v (.int f), .v (.lst (bs.map .int)), .o ((pre.foldl (gstep fun t => decide ((rs.length : Int) - f ≤ cnt rs t)) []).map eG), s4, s5, s6, s7, s8, s9]) ⟨_, _, _, _, _, _, rfl⟩ (by
      rintro pre p post r e ⟨s4, s5, s6, s7, s8, s9, rfl⟩ J hJ
      have hpre : pre.length < 100 := by
        have := congrArg List.length e
        simp at this
        omega
      have gl := gfold_len (fun t => decide ((rs.length : Int) - f ≤ cnt rs t)) pre []
      rw [List.foldl_append] at hJ
      simp only [List.foldl_cons, List.foldl_nil] at hJ
      generalize pre.foldl (gstep fun t => decide ((rs.length : Int) - f ≤ cnt rs t)) [] = F at *
      have gl2 : F.length < 16777216 := by simp at gl; omega
      have hc := cnt_not rs p.1
      have ef : (fun r : Rp => decide (p.1 < r.lo) || decide (r.hi < p.1)) = fun r => !(rightB p.1 r) := by
        funext r
        unfold rightB
        rw [Bool.eq_iff_iff]
        simp only [Bool.or_eq_true, decide_eq_true_eq, Bool.not_eq_true', Bool.and_eq_false_iff, decide_eq_false_iff_not]
        omega
      have iffc0 : (((rs.filter fun r => !(rightB p.1 r)).length : Nat) : Int) ≤ f ↔ (rs.length : Int) - f ≤ cnt rs p.1 := by omega
      rw [← ef] at iffc0
      by_cases c1 : p.1 < 10000
      · by_cases c2 : p.1 < p.2
        · by_cases c3 : (rs.length : Int) - f ≤ cnt rs p.1
          · have c3' := iffc0.mpr c3
            rcases snoc_cases F with rfl | ⟨ys, b, rfl⟩
            · have eg : gstep (fun t => decide ((rs.length : Int) - f ≤ cnt rs t)) [] p = [(p.1, p.2 - 1)] := by simp [gstep, c1, c2, c3]
              rw [eg] at hJ
              simp -implicitDefEqProofs [l0b__law_possible, c1, c2, c3', LIM]
              exact goes (hJ _ ⟨_, _, _, _, _, _, rfl⟩)
            · have gl3 : ys.length + 1 < 16777216 := by simpa using gl2
              by_cases c4 : b.2 = p.1 - 1
              · have eg : gstep (fun t => decide ((rs.length : Int) - f ≤ cnt rs t)) (ys ++ [b]) p = ys ++ [(b.1, p.2 - 1)] := by simp [gstep, c1, c2, c3, c4]
                rw [eg] at hJ
                have eix : ixN (ys.length + 1) (-1) = some ys.length := by
                  unfold ixN
                  rw [if_neg (by decide), if_pos (by omega)]
                  congr 1
                  omega
                have eset : ∀ x y : D, (ys.map eG ++ [x]).set ys.length y = ys.map eG ++ [y] := fun x y => by
                  rw [List.set_append_right _ _ (by simp)]
                  simp
                simp -implicitDefEqProofs [l0b__law_possible, c1, c2, c3', c4, i20, i21, eix, eset]
                simp only [List.map_append, List.map_cons, List.map_nil, List.append_assoc, List.cons_append, List.nil_append] at hJ
                exact goes (hJ _ ⟨_, _, _, _, _, _, rfl⟩)
              · have eg : gstep (fun t => decide ((rs.length : Int) - f ≤ cnt rs t)) (ys ++ [b]) p = ys ++ [b] ++ [(p.1, p.2 - 1)] := by simp [gstep, c1, c2, c3, c4]
                rw [eg] at hJ
                simp -implicitDefEqProofs [l0b__law_possible, c1, c2, c3', c4, ixN, LIM, gl3]
                simp only [List.map_append, List.map_cons, List.map_nil, List.append_assoc, List.cons_append, List.nil_append] at hJ
                exact goes (hJ _ ⟨_, _, _, _, _, _, rfl⟩)
          · have c3' : ¬ (((rs.filter fun r : Rp => decide (p.1 < r.lo) || decide (r.hi < p.1)).length : Nat) : Int) ≤ f := fun q => c3 (iffc0.mp q)
            have eg : gstep (fun t => decide ((rs.length : Int) - f ≤ cnt rs t)) F p = F := by simp [gstep, c3]
            rw [eg] at hJ
            simp -implicitDefEqProofs [l0b__law_possible, c1, c2, c3', LIM]
            exact goes (hJ _ ⟨_, _, _, _, _, _, rfl⟩)
        · have eg : gstep (fun t => decide ((rs.length : Int) - f ≤ cnt rs t)) F p = F := by simp [gstep, c2]
          rw [eg] at hJ
          simp -implicitDefEqProofs [l0b__law_possible, c1, c2]
          exact goes (hJ _ ⟨_, _, _, _, _, _, rfl⟩)
      · have eg : gstep (fun t => decide ((rs.length : Int) - f ≤ cnt rs t)) F p = F := by simp [gstep, c1]
        rw [eg] at hJ
        simp -implicitDefEqProofs [l0b__law_possible, c1]
        exact goes (hJ _ ⟨_, _, _, _, _, _, rfl⟩))
  simp -implicitDefEqProofs [f__law_possible, b__law_possible, l1, l1', l2, e2, h1])
end Lw
end
section
/-! which sources suffice -/
namespace Lw
open Py
variable {X : List Fd} {k : Nat}
def part (rs : List Rp) (c : List Tx) : List Rp := rs.filter fun r => decide (r.nm ∈ c)
def en (rs : List Rp) (f : Int) (a b : Int) (c : List Tx) : Bool := (poss (part rs c) f).all fun p => decide (a ≤ p.1) && decide (p.2 ≤ b)
theorem part_tr {rs : List Rp} (h : TR rs) (c : List Tx) : TR (part rs c) := ⟨fun r hr => h.t r (List.mem_filter.mp hr).1⟩
theorem part_len (rs : List Rp) (c : List Tx) : (part rs c).length ≤ rs.length := filter_len _ _
theorem en_iff {rs : List Rp} (h : TR rs) {f a b : Int} {c : List Tx} : en rs f a b c = true ↔ ∀ t, 0 ≤ t → t ≤ 9999 → ((part rs c).length : Int) - f ≤ cnt (part rs c) t → a ≤ t ∧ t ≤ b := by
  obtain ⟨w1, w2⟩ := withM_spec (part_tr h c) ((part rs c).length - f)
  unfold en
  rw [List.all_eq_true]
  constructor
  · intro q t t0 t1 t2
    obtain ⟨p, hp, p1, p2⟩ := (w2 t).mpr ⟨t0, t1, t2⟩
    have := q p hp
    simp only [Bool.and_eq_true, decide_eq_true_eq] at this
    omega
  · intro q p hp
    have hn := w1.ne p hp
    have a1 := (w2 p.1).mp ⟨p, hp, Int.le_refl _, hn⟩
    have a2 := (w2 p.2).mp ⟨p, hp, hn, Int.le_refl _⟩
    have b1 := q p.1 a1.1 a1.2.1 a1.2.2
    have b2 := q p.2 a2.1 a2.2.1 a2.2.2
    simp only [Bool.and_eq_true, decide_eq_true_eq]
    omega
theorem filt_le {α : Type} {p q : α → Bool} (h : ∀ x, p x = true → q x = true) : ∀ {xs : List α}, (xs.filter p).length ≤ (xs.filter q).length
  | [] => by simp
  | x :: xs => by
    have ih := filt_le h (xs := xs)
    cases hp : p x with
    | true => simp [hp, h x hp, ih]
    | false => cases hq : q x <;> simp [hp, hq] <;> omega
/-- more sources tell no less -/
theorem en_mono {rs : List Rp} (h : TR rs) {f a b : Int} {c d : List Tx} (hs : ∀ x ∈ c, x ∈ d) (he : en rs f a b c = true) : en rs f a b d = true := by
  rw [en_iff h] at he ⊢
  intro t t0 t1 t2
  refine he t t0 t1 ?_
  have h1 := cnt_not (part rs c) t
  have h2 := cnt_not (part rs d) t
  have h3 : ((part rs c).filter fun r => !rightB t r).length ≤ ((part rs d).filter fun r => !rightB t r).length := by
    unfold part
    rw [List.filter_filter, List.filter_filter]
    refine filt_le fun r hr => ?_
    simp only [Bool.and_eq_true, decide_eq_true_eq] at hr ⊢
    exact ⟨hr.1, hs _ hr.2⟩
  omega
theorem s_is_enough (hk : 5 ≤ k) {rs : List Rp} (hl : rs.length ≤ 30) (f a b : Int) (c : List Tx) : phi (U X) k 92 [eRs rs, .int f, tNs c, .int a, .int b] = ret (.bl (en rs f a b c)) := at_def rfl (by omega) (by
  have z := s_possible_times (X := X) (k := k - 1) (by omega) (rs := part rs c) (Nat.le_trans (part_len _ _) hl) f
  have e : (rs.filter fun r => decide (r.nm ∈ c)) = part rs c := rfl
  unfold en
  generalize hp : poss (part rs c) f = P at *
  simp -implicitDefEqProofs [f_is_enough, b_is_enough, ixN, e, z]
  rw [← hp])
theorem s_is_enoughL (hk : 5 ≤ k) {rs : List Rp} (hl : rs.length ≤ 30) (f a b : Int) (c : List Tx) : phi (U X) k 92 [eRs rs, .int f, eNs c, .int a, .int b] = ret (.bl (en rs f a b c)) := at_def rfl (by omega) (by
  have z := s_possible_times (X := X) (k := k - 1) (by omega) (rs := part rs c) (Nat.le_trans (part_len _ _) hl) f
  have e : (rs.filter fun r => decide (r.nm ∈ c)) = part rs c := rfl
  unfold en
  generalize hp : poss (part rs c) f = P at *
  simp -implicitDefEqProofs [f_is_enough, b_is_enough, ixN, e, z]
  rw [← hp])
def combs : List Tx → Nat → List (List Tx)
  | _, 0 => [[]]
  | [], _ + 1 => []
  | x :: r, n + 1 => (combs r n).map (x :: ·) ++ combs r (n + 1)
theorem combs_len : ∀ (names : List Tx) (s : Nat), (combs names s).length ≤ 2 ^ names.length
  | [], 0 => by simp [combs]
  | _ :: r, 0 => by simp [combs]; exact Nat.one_le_two_pow
  | [], s + 1 => by simp [combs]
  | x :: r, s + 1 => by
    have h1 := combs_len r s
    have h2 := combs_len r (s + 1)
    simp only [combs, List.length_append, List.length_map, List.length_cons, Nat.pow_succ]
    omega
theorem combs_at : ∀ (names : List Tx) (s : Nat) (c : List Tx), c ∈ combs names s → c.length = s
  | _, 0, c, h => by simp [combs] at h; simp [h]
  | [], s + 1, c, h => by simp [combs] at h
  | x :: r, s + 1, c, h => by
    simp only [combs, List.mem_append, List.mem_map] at h
    rcases h with ⟨d, hd, rfl⟩ | h
    · simp [combs_at r s d hd]
    · exact combs_at r (s + 1) c h
theorem enum_map (e : D → D := id) : ∀ (xs : List D) (s : Int), enumD s xs = (List.range xs.length).map fun i : Nat => D.tup [.int (s + i), xs.getD i .non]
  | [], s => rfl
  | x :: xs, s => by
    rw [enumD, enum_map e xs (s + 1), List.length_cons, List.range_succ_eq_map, List.map_cons, List.map_map]
    congr 1
    · simp
    · refine List.map_congr_left fun i _ => ?_
      simp only [Function.comp, List.getD_cons_succ]
      congr 3
      push_cast
      omega
theorem cut_drop {α : Type} (xs : List α) (i : Nat) : cut xs (some (i : Int)) none = xs.drop i := by
  unfold cut
  simp only [sIx]
  rw [if_neg (by omega)]
  simp only [Int.toNat_natCast]
  by_cases h : i ≤ xs.length
  · rw [Nat.min_eq_left h, List.take_of_length_le (by simp)]
  · rw [Nat.min_eq_right (by omega), List.take_of_length_le (by simp), List.drop_eq_nil_of_le (Nat.le_refl _), List.drop_eq_nil_of_le (by omega)]
theorem drop_at {names : List Tx} {i : Nat} (h : i < names.length) : names.drop i = names.getD i [] :: names.drop (i + 1) := by
  rw [List.drop_eq_getElem_cons h, List.getD_eq_getElem?_getD, List.getElem?_eq_getElem h]
  rfl
theorem s_sets_of : ∀ (s : Nat), s ≤ 10 → ∀ {k : Nat} {names : List Tx}, s + 1 ≤ k → names.length ≤ 10 → phi (U X) k 94 [eNs names, .int s] = ret (.lst ((combs names s).map tNs))
  | 0, h10, k, names, hk, hn => at_def rfl (by omega) (by
    have : combs names 0 = [[]] := by cases names <;> rfl
    rw [this]
    simp -implicitDefEqProofs [f_sets_of, b_sets_of])
  | s + 1, h10, k, names, hk, hn => at_def rfl (by omega) (by
    have ih := fun {names : List Tx} (hn : names.length ≤ 10) => s_sets_of s (by omega) (k := k - 1) (names := names) (by omega) hn
    have tot := combs_len names (s + 1)
    have p10 : 2 ^ names.length ≤ 1024 := Nat.pow_le_pow_right (by decide) hn
    have n16 : names.length ≤ 16777216 := by omega
    have em := enum_map id (names.map .str) 0
    simp only [List.length_map] at em
    have em2 : enumD 0 (names.map .str) = (List.range names.length).map fun i : Nat => D.tup [.int (i : Int), .str (names.getD i [])] := by
      rw [em]
      refine List.map_congr_left fun i hi => ?_
      have : i < names.length := by simpa using hi
      simp [List.getD_eq_getElem?_getD, List.getElem?_eq_getElem this]
    have s1 : ¬ ((s : Int) + 1 = 0) := by omega
    have s2 : (s : Int) + 1 - 1 = s := by omega
    obtain ⟨r', h1, F, s3, s4, s5, rfl, hF⟩ := fo_invJ (L := Lk' X (k - 1)) (s := l0_sets_of) (xs := List.range names.length) (e := fun i : Nat => D.tup [.int (i : Int), .str (names.getD i [])]) (r0 := [.v (eNs names), .v (.int ((s : Int) + 1)), .v (.lst []), .none, .none, .none]) rfl (by
        simp -implicitDefEqProofs [enumDD, LIM, n16, em2])
      (fun pre r => ∃ (F : List (List Tx)) (s3 s4 s5 : Slot), r = [.v (eNs names), .v (.int ((s : Int) + 1)), .v (.lst (F.map tNs)), s3, s4, s5] ∧ F ++ combs (names.drop pre.length) (s + 1) = combs names (s + 1)) ⟨[], _, _, _, rfl, by simp⟩ (by
        rintro pre i post r e ⟨F, s3, s4, s5, rfl, hF⟩ J hJ
        obtain ⟨rfl, hi⟩ := range_at e
        rw [drop_at hi] at hF
        simp only [combs] at hF
        have hl := congrArg List.length hF
        simp only [List.length_append, List.length_map] at hl
        have z := ih (names := names.drop (pre.length + 1)) (by simp; omega)
        have hlen : (pre ++ [pre.length]).length = pre.length + 1 := by simp
        rw [hlen] at hJ
        have sl : slcD (.lst (names.map .str)) (some ((pre.length : Int) + 1)) none = some (.lst ((names.drop (pre.length + 1)).map .str)) := by
          rw [slcD]
          have := cut_drop (names.map D.str) (pre.length + 1)
          rw [show ((pre.length + 1 : Nat) : Int) = (pre.length : Int) + 1 by omega] at this
          rw [this, List.map_drop]
        have ca := combs_at (names.drop (pre.length + 1)) s
        generalize names.getD pre.length [] = x at *
        generalize names.drop (pre.length + 1) = R at *
        generalize combs R s = C at *
        generalize combs R (s + 1) = C2 at *
        have hc : (compM C fun c => if 1 + c.length ≤ 16777216 then ret (some (D.tup (.str x :: c.map .str))) else noexc fail) = ret (C.map fun c => tNs (x :: c)) := compM_ok fun c hc => by
          have cl := ca c hc
          rw [if_pos (by omega)]
          rfl
        have l1 : F.length + C.length ≤ 16777216 := by omega
        simp -implicitDefEqProofs [l0b_sets_of, sl, s2, z, LIM, hc, l1]
        exact goes (hJ _ ⟨F ++ C.map (x :: ·), _, _, _, by rw [List.map_append, List.map_map]; rfl, by rw [List.append_assoc]; exact hF⟩))
    have hd : names.drop (List.range names.length).length = [] := by simp
    rw [hd] at hF
    simp only [combs, List.append_nil] at hF
    subst hF
    simp -implicitDefEqProofs [f_sets_of, b_sets_of, s1, h1])
/-! checks -/
theorem s_check_times (hk : 7 ≤ k) {rs : List Rp} (h : VR rs) {f : Int} (f0 : 0 ≤ f) (f1 : f ≤ 10) (hne : poss rs f ≠ []) {a b : Int} (a0 : 0 ≤ a) (a1 : a ≤ 9999) (b0 : 0 ≤ b) (b1 : b ≤ 9999) : phi (U X) k 90 [eRs rs, .int f, .int a, .int b] = ret .non := at_def rfl (by omega) (by
  have z1 := s_is_time (X := X) (k := k - 1) (d := .int a) (by omega) rfl
  have z2 := s_is_time (X := X) (k := k - 1) (d := .int b) (by omega) rfl
  have z3 := s_check_possible (X := X) (k := k - 1) h (by omega) f0 f1 hne
  simp -implicitDefEqProofs [f_check_times, b_check_times, z1, z2, z3, isTm, a0, a1, b0, b1])
theorem s_check_question (hk : 8 ≤ k) {rs : List Rp} (h : VR rs) {f : Int} (f0 : 0 ≤ f) (f1 : f ≤ 10) (hne : poss rs f ≠ []) {a b : Int} (a0 : 0 ≤ a) (a1 : a ≤ 9999) (b0 : 0 ≤ b) (b1 : b ≤ 9999) : phi (U X) k 91 [eRs rs, .int f, .int a, .int b] = ret .non := at_def rfl (by omega) (by
  have z1 := h.check (X := X) (k := k - 1) (by omega)
  have z2 := li_ok (X := X) (k := k - 1) (by omega) f0 f1
  have z3 := s_check_times (X := X) (k := k - 1) (by omega) h f0 f1 hne a0 a1 b0 b1
  simp -implicitDefEqProofs [f_check_question, b_check_question, z1, z2, z3])
theorem s_suffices (hk : 8 ≤ k) {rs : List Rp} (h : VR rs) {f : Int} (f0 : 0 ≤ f) (f1 : f ≤ 10) (hne : poss rs f ≠ []) {a b : Int} (a0 : 0 ≤ a) (a1 : a ≤ 9999) (b0 : 0 ≤ b) (b1 : b ≤ 9999) {c : List Tx} (hn : ∀ n ∈ c, nmB n = true) (hc : c = (rs.map (·.nm)).filter fun n => decide (n ∈ c)) : phi (U X) k 93 [eRs rs, .int f, tNs c, .int a, .int b] = ret (.bl (en rs f a b c)) := at_def rfl (by omega) (by
  have z1 := h.check (X := X) (k := k - 1) (by omega)
  have z2 := li_ok (X := X) (k := k - 1) (by omega) f0 f1
  have z3 := s_check_times (X := X) (k := k - 1) (by omega) h f0 f1 hne a0 a1 b0 b1
  have z4 := s_are_names (X := X) (k := k - 1) (by omega) rs hn
  rw [decide_eq_true hc] at z4
  have z5 := s_is_enough (X := X) (k := k - 1) (by omega) (rs := rs) (by have := h.len; omega) f a b c
  simp -implicitDefEqProofs [f_suffices, b_suffices, z1, z2, z3, z4, z5])
/-- the sets of a size that suffice -/
def fitS (rs : List Rp) (f a b : Int) (s : Nat) : List (List Tx) := (combs (rs.map (·.nm)) s).filter (en rs f a b)
theorem fo_ret {L : Lk} {s : S} {t : Tgt} {it : It} {b : Ss} {α : Type} {xs pre post : List α} {x : α} {e : α → D} {r0 : Env} {d : D} (hs : s = .fo t it b) (hi : evi L it r0 = ret (xs.map e)) (hx : xs = pre ++ x :: post) (I : Env → Prop) (h0 : I r0)
    (hb : ∀ y ∈ pre, ∀ r, I r → ∀ J : Env → Prop, (∀ r', I r' → J r') → Goes (bndE r (lif (bindT r t (e y))) (evSs L b)) J) (hr : ∀ r, I r → bndE r (lif (bindT r t (e x))) (evSs L b) = retS d) : evS L s r0 = retS d := by
  rw [hs, evS_fo, hi, bndE_ret, forS_map, hx]
  exact forS_ret (fun _ r => I r) h0 (fun p y q r ep h => hb y (by rw [ep]; simp) r h _ fun _ z => z) hr
theorem range_split {s n : Nat} (h : s < n) : ∃ post, List.range n = List.range s ++ s :: post := by
  refine ⟨(List.range n).drop (s + 1), ?_⟩
  have h1 : (List.range n).take s = List.range s := by rw [List.take_range, Nat.min_eq_left (by omega)]
  have h2 : (List.range n).drop s = s :: (List.range n).drop (s + 1) := by
    rw [List.drop_eq_getElem_cons (by simpa using h)]
    simp
  rw [← h2, ← h1, List.take_append_drop]
section
variable {rs : List Rp} {f a b : Int}
theorem few_items (L : Lk) (h : rs.length ≤ 30) (s4 s5 s6 : Slot) : evi L (.rng1 (.bin .add (.blt .len (.cons (.var 0) .nil)) (.cst (.int 1)))) [.v (eRs rs), .v (.int f), .v (.int a), .v (.int b), s4, s5, s6] = ret ((List.range (rs.length + 1)).map fun i : Nat => D.int (i : Int)) := by
  have e := rngD0 (n := rs.length + 1) (by omega)
  rw [show ((rs.length + 1 : Nat) : Int) = (rs.length : Int) + 1 by omega] at e
  simp -implicitDefEqProofs [e]
theorem few_items2 (L : Lk) (h : rs.length ≤ 30) (s4 s5 : Slot) : evi L (.rng1 (.bin .add (.blt .len (.cons (.var 0) .nil)) (.cst (.int 1)))) [.v (eRs rs), .v (.int f), .v (.int a), .v (.int b), s4, s5] = ret ((List.range (rs.length + 1)).map fun i : Nat => D.int (i : Int)) := by
  have e := rngD0 (n := rs.length + 1) (by omega)
  rw [show ((rs.length + 1 : Nat) : Int) = (rs.length : Int) + 1 by omega] at e
  simp -implicitDefEqProofs [e]
theorem few_turn (hk : 12 ≤ k) (hl : rs.length ≤ 10) {s : Nat} (hs : s ≤ 10) (s4 s5 s6 : Slot) : bndE [.v (eRs rs), .v (.int f), .v (.int a), .v (.int b), s4, s5, s6] (lif (bindT [.v (eRs rs), .v (.int f), .v (.int a), .v (.int b), s4, s5, s6] (.nm 4) (.int s))) (evSs (Lk' X k) l0b_fewest_reports) = match fitS rs f a b s with
    | [] => nextS [.v (eRs rs), .v (.int f), .v (.int a), .v (.int b), .v (.int s), .v (.lst []), s6]
    | c :: _ => retS (tNs c) := by
  have z2 := s_sources (X := X) (k := k) (by omega) rs
  have z3 := s_sets_of (X := X) s hs (k := k) (names := rs.map (·.nm)) (by omega) (by simpa using hl)
  have z5 := fun c => s_is_enough (X := X) (k := k) (by omega) (rs := rs) (by omega) f a b c
  unfold fitS
  generalize rs.map (·.nm) = N at *
  generalize combs N s = C at *
  have ec : C.filter (fun c => decide (en rs f a b c = true)) = C.filter (en rs f a b) := List.filter_congr fun c _ => by simp
  generalize hF : C.filter (en rs f a b) = F at *
  simp -implicitDefEqProofs [l0b_fewest_reports, z2, z3, z5, ec, hF]
  cases F with
  | nil => simp -implicitDefEqProofs []
  | cons c r => simp -implicitDefEqProofs []
theorem s_fewest (hk : 13 ≤ k) (h : VR rs) (f0 : 0 ≤ f) (f1 : f ≤ 10) (hne : poss rs f ≠ []) (a0 : 0 ≤ a) (a1 : a ≤ 9999) (b0 : 0 ≤ b) (b1 : b ≤ 9999) {s : Nat} (hs : s ≤ rs.length) (hn : ∀ j, j < s → fitS rs f a b j = []) {c : List Tx} {r : List (List Tx)} (hc : fitS rs f a b s = c :: r) : phi (U X) k 95 [eRs rs, .int f, .int a, .int b] = ret (tNs c) := at_def rfl (by omega) (by
  have z1 := s_check_question (X := X) (k := k - 1) (by omega) h f0 f1 hne a0 a1 b0 b1
  have hl := h.len
  obtain ⟨post, hp⟩ := range_split (s := s) (n := rs.length + 1) (by omega)
  have h1 := fo_ret (L := Lk' X (k - 1)) (s := l0_fewest_reports) (d := tNs c) (r0 := [.v (eRs rs), .v (.int f), .v (.int a), .v (.int b), .none, .none, .none]) rfl (few_items _ (by omega) _ _ _) hp
    (fun r => ∃ s4 s5 s6, r = [.v (eRs rs), .v (.int f), .v (.int a), .v (.int b), s4, s5, s6]) ⟨_, _, _, rfl⟩ (by
      rintro y hy r ⟨s4, s5, s6, rfl⟩ J hJ
      have hy : y < s := by simpa using hy
      rw [few_turn (by omega) hl (by omega), hn y hy]
      exact goes (hJ _ ⟨_, _, _, rfl⟩)) (by
      rintro r ⟨s4, s5, s6, rfl⟩
      rw [few_turn (by omega) hl (by omega), hc])
  simp -implicitDefEqProofs [f_fewest_reports, b_fewest_reports, z1, h1])
theorem s_fewest_no (hk : 13 ≤ k) (h : VR rs) (f0 : 0 ≤ f) (f1 : f ≤ 10) (hne : poss rs f ≠ []) (a0 : 0 ≤ a) (a1 : a ≤ 9999) (b0 : 0 ≤ b) (b1 : b ≤ 9999) (hn : ∀ j, j ≤ rs.length → fitS rs f a b j = []) : phi (U X) k 95 [eRs rs, .int f, .int a, .int b] = ret .non := at_def rfl (by omega) (by
  have z1 := s_check_question (X := X) (k := k - 1) (by omega) h f0 f1 hne a0 a1 b0 b1
  have hl := h.len
  obtain ⟨r', h1, s4, s5, s6, rfl⟩ := fo_keepJ (L := Lk' X (k - 1)) (s := l0_fewest_reports) (r0 := [.v (eRs rs), .v (.int f), .v (.int a), .v (.int b), .none, .none, .none]) rfl (few_items _ (by omega) _ _ _)
    (fun r => ∃ s4 s5 s6, r = [.v (eRs rs), .v (.int f), .v (.int a), .v (.int b), s4, s5, s6]) ⟨_, _, _, rfl⟩ (by
      rintro y hy r ⟨s4, s5, s6, rfl⟩ J hJ
      have hy : y < rs.length + 1 := by simpa using hy
      rw [few_turn (by omega) hl (by omega), hn y (by omega)]
      exact goes (hJ _ ⟨_, _, _, rfl⟩))
  simp -implicitDefEqProofs [f_fewest_reports, b_fewest_reports, z1, h1])
def allFit (rs : List Rp) (f a b : Int) (s : Nat) : Bool := (combs (rs.map (·.nm)) s).all (en rs f a b)
theorem eno_turn (hk : 12 ≤ k) (hl : rs.length ≤ 10) {s : Nat} (hs : s ≤ 10) (s4 s5 : Slot) : bndE [.v (eRs rs), .v (.int f), .v (.int a), .v (.int b), s4, s5] (lif (bindT [.v (eRs rs), .v (.int f), .v (.int a), .v (.int b), s4, s5] (.nm 4) (.int s))) (evSs (Lk' X k) l0b_enough_reports) = if allFit rs f a b s = true then retS (.int s) else nextS [.v (eRs rs), .v (.int f), .v (.int a), .v (.int b), .v (.int s), s5] := by
  have z2 := s_sources (X := X) (k := k) (by omega) rs
  have z3 := s_sets_of (X := X) s hs (k := k) (names := rs.map (·.nm)) (by omega) (by simpa using hl)
  have z5 := fun c => s_is_enough (X := X) (k := k) (by omega) (rs := rs) (by omega) f a b c
  unfold allFit
  generalize rs.map (·.nm) = N at *
  generalize combs N s = C at *
  have hall := b_all (fun c => en rs f a b c) C
  have e2 : (C.all fun c => en rs f a b c) = C.all (en rs f a b) := rfl
  rw [e2] at hall
  generalize C.all (en rs f a b) = q at *
  simp -implicitDefEqProofs [l0b_enough_reports, z2, z3, z5, hall, -b_all]
theorem s_enough (hk : 13 ≤ k) (h : VR rs) (f0 : 0 ≤ f) (f1 : f ≤ 10) (hne : poss rs f ≠ []) (a0 : 0 ≤ a) (a1 : a ≤ 9999) (b0 : 0 ≤ b) (b1 : b ≤ 9999) {s : Nat} (hs : s ≤ rs.length) (hn : ∀ j, j < s → allFit rs f a b j = false) (hc : allFit rs f a b s = true) : phi (U X) k 97 [eRs rs, .int f, .int a, .int b] = ret (.int s) := at_def rfl (by omega) (by
  have z1 := s_check_question (X := X) (k := k - 1) (by omega) h f0 f1 hne a0 a1 b0 b1
  have hl := h.len
  obtain ⟨post, hp⟩ := range_split (s := s) (n := rs.length + 1) (by omega)
  have h1 := fo_ret (L := Lk' X (k - 1)) (s := l0_enough_reports) (d := .int s) (r0 := [.v (eRs rs), .v (.int f), .v (.int a), .v (.int b), .none, .none]) rfl (few_items2 _ (by omega) _ _) hp
    (fun r => ∃ s4 s5, r = [.v (eRs rs), .v (.int f), .v (.int a), .v (.int b), s4, s5]) ⟨_, _, rfl⟩ (by
      rintro y hy r ⟨s4, s5, rfl⟩ J hJ
      have hy : y < s := by simpa using hy
      rw [eno_turn (by omega) hl (by omega), hn y hy, if_neg (by decide)]
      exact goes (hJ _ ⟨_, _, rfl⟩)) (by
      rintro r ⟨s4, s5, rfl⟩
      rw [eno_turn (by omega) hl (by omega), hc, if_pos rfl])
  simp -implicitDefEqProofs [f_enough_reports, b_enough_reports, z1, h1])
theorem s_enough_no (hk : 13 ≤ k) (h : VR rs) (f0 : 0 ≤ f) (f1 : f ≤ 10) (hne : poss rs f ≠ []) (a0 : 0 ≤ a) (a1 : a ≤ 9999) (b0 : 0 ≤ b) (b1 : b ≤ 9999) (hn : ∀ j, j ≤ rs.length → allFit rs f a b j = false) : phi (U X) k 97 [eRs rs, .int f, .int a, .int b] = ret .non := at_def rfl (by omega) (by
  have z1 := s_check_question (X := X) (k := k - 1) (by omega) h f0 f1 hne a0 a1 b0 b1
  have hl := h.len
  obtain ⟨r', h1, s4, s5, rfl⟩ := fo_keepJ (L := Lk' X (k - 1)) (s := l0_enough_reports) (r0 := [.v (eRs rs), .v (.int f), .v (.int a), .v (.int b), .none, .none]) rfl (few_items2 _ (by omega) _ _)
    (fun r => ∃ s4 s5, r = [.v (eRs rs), .v (.int f), .v (.int a), .v (.int b), s4, s5]) ⟨_, _, rfl⟩ (by
      rintro y hy r ⟨s4, s5, rfl⟩ J hJ
      have hy : y < rs.length + 1 := by simpa using hy
      rw [eno_turn (by omega) hl (by omega), hn y (by omega), if_neg (by decide)]
      exact goes (hJ _ ⟨_, _, rfl⟩))
  simp -implicitDefEqProofs [f_enough_reports, b_enough_reports, z1, h1])
theorem zip_self {α β : Type} (g : α → β) : ∀ xs : List α, xs.zip (xs.map g) = xs.map fun x => (x, g x)
  | [] => rfl
  | x :: xs => by simp [zip_self g xs]
theorem s_needed (hk : 9 ≤ k) (h : VR rs) (f0 : 0 ≤ f) (f1 : f ≤ 10) (hne : poss rs f ≠ []) (a0 : 0 ≤ a) (a1 : a ≤ 9999) (b0 : 0 ≤ b) (b1 : b ≤ 9999) : phi (U X) k 96 [eRs rs, .int f, .int a, .int b] = ret (if en rs f a b (rs.map (·.nm)) = true then eNs ((rs.map (·.nm)).filter fun x => !en rs f a b ((rs.map (·.nm)).filter fun y => decide (y ≠ x))) else .non) := at_def rfl (by omega) (by
  have z1 := s_check_question (X := X) (k := k - 1) (by omega) h f0 f1 hne a0 a1 b0 b1
  have z2 := s_sources (X := X) (k := k - 1) (by omega) rs
  have z5 := fun c => s_is_enoughL (X := X) (k := k - 1) (by omega) (rs := rs) (by have := h.len; omega) f a b c
  have hl : (rs.map (·.nm)).length ≤ 16777216 := by have := h.len; simp; omega
  generalize rs.map (·.nm) = N at *
  have z6 := z5 N
  have ez : N.zip N = N.map fun x => (x, x) := by
    have := zip_self (fun x : Tx => x) N
    rwa [List.map_id'] at this
  cases q : en rs f a b N with
  | false =>
    rw [q] at z6
    simp -implicitDefEqProofs [f_needed_reports, b_needed_reports, z1, z2, z6]
  | true =>
    rw [q] at z6
    simp -implicitDefEqProofs [f_needed_reports, b_needed_reports, z1, z2, z5, q, LIM, hl, ez])
end
end Lw
end
section
/-! all sets of names; the least one; what goes wrong -/
namespace Lw
open Py
variable {X : List Fd} {k : Nat}
def subs (names : List Tx) : List (List Tx) := names.foldl (fun F x => F ++ F.map fun c => c ++ [x]) [[]]
theorem subs_snoc (pre : List Tx) (x : Tx) : subs (pre ++ [x]) = subs pre ++ (subs pre).map fun c => c ++ [x] := by simp [subs]
theorem subs_ok : ∀ (n : Nat) (names : List Tx), names.length = n → (subs names).length = 2 ^ n ∧ ∀ c ∈ subs names, c.length ≤ n
  | 0, names, h => by
    obtain rfl := List.eq_nil_of_length_eq_zero h
    exact ⟨rfl, fun c hc => by have : c = [] := by simpa [subs] using hc
                               simp [this]⟩
  | n + 1, names, h => by
    rcases snoc_cases names with rfl | ⟨ys, b, rfl⟩
    · simp at h
    · have h' : ys.length = n := by simpa using h
      obtain ⟨h1, h2⟩ := subs_ok n ys h'
      rw [subs_snoc]
      refine ⟨by rw [List.length_append, List.length_map, h1, Nat.pow_succ]; omega, fun c hc => ?_⟩
      rcases List.mem_append.mp hc with hc | hc
      · have := h2 c hc; omega
      · obtain ⟨d, hd, rfl⟩ := List.mem_map.mp hc
        have := h2 d hd
        simp; omega
theorem combs_perm : ∀ n, n < 6 → ∀ s, s < 6 → (combs (nms n) s).isPerm ((subs (nms n)).filter fun c => decide (c.length = s)) = true := by decide +kernel
theorem combs_asc : ∀ n, n < 6 → ∀ s, s < 6 → (combs (nms n) s).Pairwise fun a b => ltN a b = true := by decide +kernel
theorem subs_in : ∀ n, n < 6 → ∀ c ∈ subs (nms n), c = (nms n).filter (fun x => decide (x ∈ c)) ∧ c.all nmB = true := by decide +kernel
theorem subs_last : ∀ n, n < 6 → ∀ c ∈ subs (nms n), c.dropLast ∈ subs (nms n) := by decide +kernel
theorem subs_all : ∀ n, n < 6 → nms n ∈ subs (nms n) ∧ ∀ x ∈ nms n, (nms n).filter (fun y => decide (y ≠ x)) ∈ subs (nms n) := by decide +kernel
theorem mem_combs {n s : Nat} (hn : n < 6) (hs : s < 6) {c : List Tx} : c ∈ combs (nms n) s ↔ c ∈ subs (nms n) ∧ c.length = s := by
  rw [(List.isPerm_iff.mp (combs_perm n hn s hs)).mem_iff, List.mem_filter, decide_eq_true_eq]
theorem subs_le {n : Nat} (hn : n < 6) {c : List Tx} (hc : c ∈ subs (nms n)) : c.length ≤ n := (subs_ok n (nms n) (by simp [nms])).2 c hc
theorem subs_sub {n : Nat} (hn : n < 6) {c : List Tx} (hc : c ∈ subs (nms n)) {x : Tx} (hx : x ∈ c) : x ∈ nms n := by
  have := (subs_in n hn c hc).1
  rw [this] at hx
  exact (List.mem_filter.mp hx).1
theorem mem_dropLast {α : Type} {x : α} {c : List α} (h : x ∈ c.dropLast) : x ∈ c := List.dropLast_subset c h
/-- of each lesser size there is a part -/
theorem subs_down {n : Nat} (hn : n < 6) : ∀ (m : Nat) {c : List Tx}, c ∈ subs (nms n) → c.length = m → ∀ s, s ≤ m → ∃ d ∈ subs (nms n), d.length = s ∧ ∀ x ∈ d, x ∈ c
  | 0, c, hc, hm, s, hs => ⟨c, hc, by omega, fun x hx => hx⟩
  | m + 1, c, hc, hm, s, hs => by
    by_cases q : s = m + 1
    · exact ⟨c, hc, by omega, fun x hx => hx⟩
    · obtain ⟨d, d1, d2, d3⟩ := subs_down hn m (subs_last n hn c hc) (by simp; omega) s (by omega)
      exact ⟨d, d1, d2, fun x hx => mem_dropLast (d3 x hx)⟩
theorem in_sets (c : List Tx) (F : List (List Tx)) (hF : F.length ≤ 1000) : inD (tNs c) (.lst (F.map tNs)) = some (decide (c ∈ F)) := by
  have e : (F.map tNs).any (fun y => eqD y (tNs c)) = decide (c ∈ F) := by
    rw [List.any_map]
    by_cases h : c ∈ F
    · rw [decide_eq_true h, List.any_eq_true]
      exact ⟨c, h, by simp [eqL_S]⟩
    · rw [decide_eq_false h, List.any_eq_false]
      intro d hd q
      simp [eqL_S] at q
      exact h (q ▸ hd)
  rw [inD, e]
  simp
/-! ### the least -/
theorem best_low {α : Type} {lt : α → α → Bool} {c : α} (hi : ∀ x, lt x c = true → ∀ y, y = c ∨ lt c y = true → x ≠ y) (irr : lt c c = false) (asy : ∀ x, lt c x = true → lt x c = false) : ∀ (xs : List α) (b : α), c ∈ b :: xs → (∀ d ∈ b :: xs, d = c ∨ lt c d = true) → bestB (fun a b => lt b a) b xs = c
  | [], b, hc, _ => by simp at hc; simp [bestB, hc]
  | x :: xs, b, hc, h => by
    rw [bestB]
    have hb := h b (by simp)
    have hx := h x (by simp)
    by_cases q : lt x b = true
    · rw [if_pos q]
      have hbc : b ≠ c := fun e => by
        subst e
        rcases hx with rfl | hx
        · rw [irr] at q; cases q
        · rw [asy x hx] at q; cases q
      refine best_low hi irr asy xs x ?_ fun d hd => h d (by simp at hd ⊢; rcases hd with rfl | hd <;> simp [*])
      rcases List.mem_cons.mp hc with e | e
      · exact absurd e.symm hbc
      · exact e
    · rw [if_neg q]
      refine best_low hi irr asy xs b ?_ fun d hd => h d (by simp at hd ⊢; rcases hd with rfl | hd <;> simp [*])
      rcases List.mem_cons.mp hc with e | e
      · simp [e]
      · rcases List.mem_cons.mp e with e | e
        · subst e
          rcases hb with rfl | hb
          · simp
          · exact absurd hb q
        · simp [e]
theorem ltG_N : ∀ a b : List Tx, Py.ltGl (a.map .str) (b.map .str) = ltN a b
  | [], [] => by simp [ltGl, ltN]
  | [], _ :: _ => by simp [ltGl, ltN]
  | _ :: _, [] => by simp [ltGl, ltN]
  | x :: r, y :: t => by
    rw [List.map_cons, List.map_cons, ltGl, ltG_N r t, ltN, eqD_str]
    by_cases h : x = y
    · subst h; simp [txLt_irr]
    · have e : (x == y) = false := by simp [h]
      rw [e, if_neg (by decide), Py.ltG]
      rcases txLt_tri x y with q | q | q
      · simp [q]
      · exact absurd q h
      · simp [q, txLt_asym q]
theorem like_N : ∀ {a b : List Tx}, a.length = b.length → likeL (a.map .str) (b.map .str) = true
  | [], [], _ => by simp [likeL]
  | [], _ :: _, h => by simp at h
  | _ :: _, [], h => by simp at h
  | x :: r, y :: t, h => by
    rw [List.map_cons, List.map_cons, likeL, like_N (a := r) (b := t) (by simpa using h)]
    simp [likeD]
theorem bestB_map {α β : Type} {e : α → β} {lt : β → β → Bool} {lt' : α → α → Bool} (h : ∀ a b, lt (e a) (e b) = lt' a b) : ∀ (xs : List α) (b : α), bestB lt (e b) (xs.map e) = e (bestB lt' b xs)
  | [], b => rfl
  | x :: xs, b => by
    rw [List.map_cons, bestB, bestB, h]
    split
    · exact bestB_map h xs x
    · exact bestB_map h xs b
theorem b_min1N {F : List (List Tx)} {m : Nat} {c : List Tx} (hm : ∀ d ∈ F, d.length = m) (hc : c ∈ F) (hl : ∀ d ∈ F, d = c ∨ ltN c d = true) : bltD .min1 [.lst (F.map tNs)] = some (tNs c) := by
  cases F with
  | nil => simp at hc
  | cons b r =>
    have al : allLike ((b :: r).map tNs) = true := by
      unfold allLike
      rw [List.all_eq_true]
      intro x hx
      obtain ⟨d, hd, rfl⟩ := List.mem_map.mp hx
      rw [Bool.and_eq_true]
      refine ⟨by simp, ?_⟩
      rw [List.all_eq_true]
      intro y hy
      obtain ⟨d2, hd2, rfl⟩ := List.mem_map.mp hy
      rw [likeD]
      exact like_N (by rw [hm d hd, hm d2 hd2])
    rw [bltD, List.map_cons, min1D, ← List.map_cons, if_pos al]
    congr 1
    have e := bestB_map (e := tNs) (lt := fun a b => Py.ltG b a) (lt' := fun a b => ltN b a) (fun a b => by rw [Py.ltG]; exact ltG_N b a) r b
    rw [e]
    congr 1
    exact best_low (lt := ltN) (fun x h1 y h2 e => by
      subst e
      rcases h2 with rfl | h2
      · rw [ltN_irr] at h1; cases h1
      · have := ltN_tr h1 h2; rw [ltN_irr] at this; cases this) (ltN_irr c) (fun x h => by
      cases q : ltN x c with
      | false => rfl
      | true => have := ltN_tr h q; rw [ltN_irr] at this; cases this) r b hc hl
/-! ### what goes wrong -/
theorem no_possible {rs : List Rp} (h : VR rs) (hk : 6 ≤ k) {f : Int} (h0 : 0 ≤ f) (h1 : f ≤ 10) (hne : poss rs f = []) : phi (U X) k 32 [eRs rs, .int f] = rse 6 := at_def rfl (by omega) (by
  have z1 := h.check (X := X) (k := k - 1) (by omega)
  have z2 := li_ok (X := X) (k := k - 1) (by omega) h0 h1
  have z3 := s_possible_times (X := X) (k := k - 1) (by omega) (Nat.le_trans h.len (by decide)) f
  have e : withM rs ((rs.length : Int) - f) = [] := hne
  rw [e] at z3
  simp -implicitDefEqProofs [f_check_possible, b_check_possible, z1, z2, z3])
theorem no_times (hk : 3 ≤ k) {r l a b : D} (ha : okD a = true) (hb : okD b = true) (h : isTm a = false ∨ isTm b = false) : phi (U X) k 90 [r, l, a, b] = rse 2 := at_def rfl (by omega) (by
  have z1 := s_is_time (X := X) (k := k - 1) (by omega) ha
  have z2 := s_is_time (X := X) (k := k - 1) (by omega) hb
  cases q : isTm a with
  | false => rw [q] at z1; simp -implicitDefEqProofs [f_check_times, b_check_times, z1]
  | true =>
    rw [q] at z1 h
    have q2 : isTm b = false := by simpa using h
    rw [q2] at z2
    simp -implicitDefEqProofs [f_check_times, b_check_times, z1, z2])
theorem no_times6 {rs : List Rp} (h : VR rs) (hk : 7 ≤ k) {f : Int} (h0 : 0 ≤ f) (h1 : f ≤ 10) (hne : poss rs f = []) {a b : Int} (a0 : 0 ≤ a) (a1 : a ≤ 9999) (b0 : 0 ≤ b) (b1 : b ≤ 9999) : phi (U X) k 90 [eRs rs, .int f, .int a, .int b] = rse 6 := at_def rfl (by omega) (by
  have z1 := s_is_time (X := X) (k := k - 1) (d := .int a) (by omega) rfl
  have z2 := s_is_time (X := X) (k := k - 1) (d := .int b) (by omega) rfl
  have z3 := no_possible (X := X) (k := k - 1) h (by omega) h0 h1 hne
  simp -implicitDefEqProofs [f_check_times, b_check_times, z1, z2, z3, isTm, a0, a1, b0, b1])
/-- the arguments of a question: the first that is wrong -/
theorem q_bad1 (hk : 6 ≤ k) {r : D} {n : Nat} (h : pl (n + 1) r = true) (hr : areReps r = false) (l a b : D) : phi (U X) k 91 [r, l, a, b] = rse 1 := at_def rfl (by omega) (by
  have z1 := s_check_reports (X := X) (k := k - 1) (by omega) h
  rw [hr] at z1
  simp -implicitDefEqProofs [f_check_question, b_check_question, z1])
theorem q_bad5 (hk : 6 ≤ k) {rs : List Rp} (h : VR rs) {l : D} (hl : okD l = true) (h2 : isLi l = false) (a b : D) : phi (U X) k 91 [eRs rs, l, a, b] = rse 5 := at_def rfl (by omega) (by
  have z1 := h.check (X := X) (k := k - 1) (by omega)
  have z2 := s_check_liars (X := X) (k := k - 1) (by omega) hl
  rw [h2] at z2
  simp -implicitDefEqProofs [f_check_question, b_check_question, z1, z2])
theorem q_bad {c : Nat} (hk : 6 ≤ k) {rs : List Rp} (h : VR rs) {f : Int} (h0 : 0 ≤ f) (h1 : f ≤ 10) {a b : D} (hc : phi (U X) (k - 1) 90 [eRs rs, .int f, a, b] = rse c) : phi (U X) k 91 [eRs rs, .int f, a, b] = rse c := at_def rfl (by omega) (by
  have z1 := h.check (X := X) (k := k - 1) (by omega)
  have z2 := li_ok (X := X) (k := k - 1) (by omega) h0 h1
  simp -implicitDefEqProofs [f_check_question, b_check_question, z1, z2, hc])
theorem few_bad {c : Nat} (hk : 1 ≤ k) {r l a b : D} (h : phi (U X) (k - 1) 91 [r, l, a, b] = rse c) : phi (U X) k 95 [r, l, a, b] = rse c := at_def rfl (by omega) (by
  simp -implicitDefEqProofs [f_fewest_reports, b_fewest_reports, h])
theorem need_bad {c : Nat} (hk : 1 ≤ k) {r l a b : D} (h : phi (U X) (k - 1) 91 [r, l, a, b] = rse c) : phi (U X) k 96 [r, l, a, b] = rse c := at_def rfl (by omega) (by
  simp -implicitDefEqProofs [f_needed_reports, b_needed_reports, h])
theorem eno_bad {c : Nat} (hk : 1 ≤ k) {r l a b : D} (h : phi (U X) (k - 1) 91 [r, l, a, b] = rse c) : phi (U X) k 97 [r, l, a, b] = rse c := at_def rfl (by omega) (by
  simp -implicitDefEqProofs [f_enough_reports, b_enough_reports, h])
theorem suf_bad1 (hk : 6 ≤ k) {r : D} {n : Nat} (h : pl (n + 1) r = true) (hr : areReps r = false) (l c a b : D) : phi (U X) k 93 [r, l, c, a, b] = rse 1 := at_def rfl (by omega) (by
  have z1 := s_check_reports (X := X) (k := k - 1) (by omega) h
  rw [hr] at z1
  simp -implicitDefEqProofs [f_suffices, b_suffices, z1])
theorem suf_bad5 (hk : 6 ≤ k) {rs : List Rp} (h : VR rs) {l : D} (hl : okD l = true) (h2 : isLi l = false) (c a b : D) : phi (U X) k 93 [eRs rs, l, c, a, b] = rse 5 := at_def rfl (by omega) (by
  have z1 := h.check (X := X) (k := k - 1) (by omega)
  have z2 := s_check_liars (X := X) (k := k - 1) (by omega) hl
  rw [h2] at z2
  simp -implicitDefEqProofs [f_suffices, b_suffices, z1, z2])
theorem suf_bad3 (hk : 6 ≤ k) {rs : List Rp} (h : VR rs) {f : Int} (h0 : 0 ≤ f) (h1 : f ≤ 10) {c : D} (hc : phi (U X) (k - 1) 12 [eRs rs, c] = ret (.bl false)) (a b : D) : phi (U X) k 93 [eRs rs, .int f, c, a, b] = rse 3 := at_def rfl (by omega) (by
  have z1 := h.check (X := X) (k := k - 1) (by omega)
  have z2 := li_ok (X := X) (k := k - 1) (by omega) h0 h1
  simp -implicitDefEqProofs [f_suffices, b_suffices, z1, z2, hc])
theorem suf_bad {e : Nat} (hk : 6 ≤ k) {rs : List Rp} (h : VR rs) {f : Int} (h0 : 0 ≤ f) (h1 : f ≤ 10) {c : D} (hc : phi (U X) (k - 1) 12 [eRs rs, c] = ret (.bl true)) {a b : D} (he : phi (U X) (k - 1) 90 [eRs rs, .int f, a, b] = rse e) : phi (U X) k 93 [eRs rs, .int f, c, a, b] = rse e := at_def rfl (by omega) (by
  have z1 := h.check (X := X) (k := k - 1) (by omega)
  have z2 := li_ok (X := X) (k := k - 1) (by omega) h0 h1
  simp -implicitDefEqProofs [f_suffices, b_suffices, z1, z2, hc, he])
theorem nam_no1 (hk : 1 ≤ k) (r : D) : phi (U X) k 12 [r, .non] = ret (.bl false) := at_def rfl (by omega) (by simp -implicitDefEqProofs [f_are_names, b_are_names, isTy])
theorem nam_no2 (hk : 1 ≤ k) (r : D) (xs : List D) : phi (U X) k 12 [r, .lst xs] = ret (.bl false) := at_def rfl (by omega) (by simp -implicitDefEqProofs [f_are_names, b_are_names, isTy])
theorem nam_no3 (hk : 1 ≤ k) (r : D) (xs : Tx) : phi (U X) k 12 [r, .str xs] = ret (.bl false) := at_def rfl (by omega) (by simp -implicitDefEqProofs [f_are_names, b_are_names, isTy])
theorem nam_no4 : ∀ n, n < 6 → ∀ c ∈ [[[122, 122]], [[98], [97]], [[97], [97]]], decide (c = (nms n).filter fun x => decide (x ∈ c)) = false ∧ c.all nmB = true := by decide +kernel
def badC : List D := [.non, .lst [.str [97]], .tup [.str [122, 122]], .tup [.str [98], .str [97]], .tup [.str [97], .str [97]], .str [97]]
theorem nam_no (hk : 2 ≤ k) {rs : List Rp} (h : Nx rs) (h5 : rs.length ≤ 5) : ∀ c ∈ badC, phi (U X) k 12 [eRs rs, c] = ret (.bl false) := by
  have key : ∀ c ∈ [[[122, 122]], [[98], [97]], [[97], [97]]], phi (U X) k 12 [eRs rs, tNs c] = ret (.bl false) := fun c hc => by
    obtain ⟨q1, q2⟩ := nam_no4 rs.length (by omega) c hc
    rw [s_are_names hk rs (fun n hn => List.all_eq_true.mp q2 n hn), h.names, q1]
  intro c hc
  simp only [badC, List.mem_cons, List.not_mem_nil, or_false] at hc
  rcases hc with rfl | rfl | rfl | rfl | rfl | rfl
  · exact nam_no1 (by omega) _
  · exact nam_no2 (by omega) _ _
  · exact key [[122, 122]] (by simp)
  · exact key [[98], [97]] (by simp)
  · exact key [[97], [97]] (by simp)
  · exact nam_no3 (by omega) _ _
end Lw
end
section
/-! running with a store -/
namespace Py
/-- goes on, and so stands then, store and all -/
def GoesS (m : SRes) (I : Env → Store → Prop) : Prop := ∃ r' w', m = .nx r' w' ∧ I r' w'
theorem goesS {r : Env} {w : Store} {I : Env → Store → Prop} (h : I r w) : GoesS (.nx r w) I := ⟨r, w, rfl, h⟩
theorem nextS_at (r : Env) (w : Store) : nextS r w = .nx r w := Eq.trans rfl rfl
theorem retS_at (d : D) (w : Store) : retS d w = .rt d w := Eq.trans rfl rfl
theorem ret_at {α : Type} (a : α) (w : Store) : ret a w = .ok a w := Eq.trans rfl rfl
theorem iteS_at {p : Prop} [Decidable p] (a b : SM) (w : Store) : (if p then a else b) w = if p then a w else b w := by split <;> rfl
theorem iteM_at {α : Type} {p : Prop} [Decidable p] (a b : M α) (w : Store) : (if p then a else b) w = if p then a w else b w := by split <;> rfl
theorem seqE {α : Type} (r : Env) (m : M α) (f : α → SM) (g : Env → SM) : seqS (bndE r m f) g = bndE r m fun a => seqS (f a) g := by
  funext w
  simp only [seqS, bndE]
  cases h : m w <;> rfl
theorem outE {α : Type} (r : Env) (m : M α) (f : α → SM) : outM (bndE r m f) = bnd m fun a => outM (f a) := by
  funext w
  simp only [outM, bndE, bnd]
  cases h : m w <;> rfl
theorem bnd_at {α β : Type} {m : M α} {f : α → M β} {w w' : Store} {a : α} (h : m w = .ok a w') : bnd m f w = f a w' := by
  unfold bnd; rw [h]
theorem bndE_at {α : Type} {r : Env} {m : M α} {f : α → SM} {w w' : Store} {a : α} (h : m w = .ok a w') : bndE r m f w = f a w' := by
  unfold bndE; rw [h]
theorem outM_at {m : SM} {w w' : Store} {d : D} (h : m w = .rt d w') : outM m w = .ok d w' := by
  unfold outM; rw [h]
theorem seqS_at {m : SM} {f : Env → SM} {w w' : Store} {r : Env} (h : m w = .nx r w') : seqS m f w = f r w' := by
  unfold seqS; rw [h]
theorem getK_at {n : Nat} {w : Store} {kvs : List (Int × D)} (h : w[n]? = some (.dct kvs)) : getK (.loc n) w = .ok kvs w := by
  unfold getK bnd rdC
  simp only [h]
  rfl
theorem getL_at {n : Nat} {w : Store} {xs : List D} (h : w[n]? = some (.lst xs)) : getL (.loc n) w = .ok xs w := by
  unfold getL bnd rdC
  simp only [h]
  rfl
theorem wrC_at (n : Nat) (c : Cell) (w : Store) : wrC (.loc n) c w = .ok .non (w.set n c) := Eq.trans rfl rfl
theorem alloc_at (c : Cell) (w : Store) : alloc c w = .ok (.loc w.length) (w ++ [c]) := Eq.trans rfl rfl
theorem bK {α : Type} {n : Nat} {w : Store} {kvs : List (Int × D)} (h : w[n]? = some (.dct kvs)) (f : List (Int × D) → M α) : bnd (getK (.loc n)) f w = f kvs w := bnd_at (getK_at h)
theorem eK {r : Env} {n : Nat} {w : Store} {kvs : List (Int × D)} (h : w[n]? = some (.dct kvs)) (f : List (Int × D) → SM) : bndE r (getK (.loc n)) f w = f kvs w := bndE_at (getK_at h)
theorem bW {α : Type} (n : Nat) (c : Cell) (w : Store) (f : D → M α) : bnd (wrC (.loc n) c) f w = f .non (w.set n c) := bnd_at (wrC_at n c w)
theorem eW (r : Env) (n : Nat) (c : Cell) (w : Store) (f : D → SM) : bndE r (wrC (.loc n) c) f w = f .non (w.set n c) := bndE_at (wrC_at n c w)
theorem eA (r : Env) (c : Cell) (w : Store) (f : D → SM) : bndE r (alloc c) f w = f (.loc w.length) (w ++ [c]) := bndE_at (alloc_at c w)
/-- a loop, the store in view -/
theorem forS_st {α : Type} {step : Env → α → SM} (I : List α → Env → Store → Prop) : ∀ {xs pre : List α} {r : Env} {w : Store}, I pre r w → (∀ p x s r w, pre ++ xs = p ++ x :: s → I p r w → GoesS (step r x w) (I (p ++ [x]))) → ∃ r' w', forS xs step r w = .nx r' w' ∧ I (pre ++ xs) r' w'
  | [], pre, r, w, h, _ => ⟨r, w, by rw [forS_nil, nextS_at], by simpa using h⟩
  | x :: xs, pre, r, w, h, hs => by
    obtain ⟨r1, w1, e1, h1⟩ := hs pre x xs r w rfl h
    obtain ⟨r2, w2, e2, h2⟩ := forS_st I (xs := xs) (pre := pre ++ [x]) h1 fun p y s r w e => hs p y s r w (by simpa using e)
    exact ⟨r2, w2, by rw [forS_cons, seqS_at e1, e2], by simpa using h2⟩
theorem fo_st {L : Lk} {s : S} {t : Tgt} {it : It} {b : Ss} {α : Type} {xs : List α} {e : α → D} {r0 : Env} {w0 : Store} (hs : s = .fo t it b) (hi : evi L it r0 w0 = .ok (xs.map e) w0) (I : List α → Env → Store → Prop) (h0 : I [] r0 w0)
    (hb : ∀ p x q r w, xs = p ++ x :: q → I p r w → ∀ J : Env → Store → Prop, (∀ r' w', I (p ++ [x]) r' w' → J r' w') → GoesS (bndE r (lif (bindT r t (e x))) (evSs L b) w) J) : ∃ r' w', evS L s r0 w0 = .nx r' w' ∧ I xs r' w' := by
  obtain ⟨r', w', h1, h2⟩ := forS_st (step := fun r x => bndE r (lif (bindT r t (e x))) (evSs L b)) I (xs := xs) (pre := []) h0 fun p x s r w ep h => hb p x s r w ep h _ fun _ _ z => z
  refine ⟨r', w', ?_, h2⟩
  rw [hs, evS_fo, bndE_at hi, forS_map]
  exact h1
end Py
namespace Lw
open Py
variable {X : List Fd} {k : Nat}
/-! ### the naive functions -/
/-- a dict of counts -/
structure KV (kvs : List (Int × D)) (g : Int → Int) : Prop where
  at_ : ∀ t, (valD kvs t).getD (.int 0) = .int (g t)
theorem valD_put (kvs : List (Int × D)) (a : Int) (v : D) (t : Int) : valD (putD kvs a v) t = if t = a then some v else valD kvs t := by
  unfold putD
  by_cases h : (kvs.any fun kv => decide (kv.1 = a)) = true
  · rw [if_pos h]
    induction kvs with
    | nil => simp at h
    | cons x r ih =>
      by_cases hx : x.1 = a
      · by_cases ht : t = a
        · subst ht; simp [valD, hx]
        · have hx2 : ¬ a = t := fun e => ht e.symm
          have hx3 : ¬ x.1 = t := by rw [hx]; exact hx2
          have tail : valD (r.map fun kv => if kv.1 = a then (kv.1, v) else kv) t = valD r t := by
            clear ih h
            induction r with
            | nil => rfl
            | cons y r ih =>
              by_cases hy : y.1 = a
              · have hy3 : ¬ y.1 = t := by rw [hy]; exact hx2
                simp only [valD, List.map_cons, hy, if_true, List.find?_cons] at ih ⊢
                simp only [hx2, decide_false]
                exact ih
              · by_cases hyt : y.1 = t
                · simp only [valD, List.map_cons, if_neg hy, List.find?_cons, hyt]
                  simp [ht, hyt]
                · simp only [valD, List.map_cons, if_neg hy, List.find?_cons, hyt, decide_false] at ih ⊢
                  exact ih
          rw [if_neg ht]
          simp only [valD, List.map_cons, hx, if_true, List.find?_cons, hx2, decide_false] at tail ⊢
          exact tail
      · have h' : (r.any fun kv => decide (kv.1 = a)) = true := by simpa [hx] using h
        have ih := ih h'
        by_cases hxt : x.1 = t
        · have hta : ¬ t = a := by rw [← hxt]; exact hx
          simp [valD, hx, hxt, hta]
        · simp only [valD, List.map_cons, if_neg hx, List.find?_cons, hxt, decide_false] at ih ⊢
          exact ih
  · rw [if_neg h]
    have hn : ∀ x ∈ kvs, ¬ x.1 = a := fun x hx e => h (List.any_eq_true.mpr ⟨x, hx, by simp [e]⟩)
    by_cases ht : t = a
    · subst ht
      have : kvs.find? (fun kv => decide (kv.1 = t)) = none := List.find?_eq_none.mpr fun x hx => by simpa using hn x hx
      simp [valD, List.find?_append, this]
    · rw [if_neg ht]
      have ha : ¬ a = t := fun e => ht e.symm
      simp [valD, List.find?_append, ha]
theorem putD_len (kvs : List (Int × D)) (a : Int) (v : D) : (putD kvs a v).length ≤ kvs.length + 1 := by
  unfold putD
  split <;> simp
theorem KV.put {kvs : List (Int × D)} {g : Int → Int} (h : KV kvs g) (a i : Int) : KV (putD kvs a (.int i)) fun t => if t = a then i else g t := ⟨fun t => by
  rw [valD_put]
  by_cases e : t = a
  · simp [e]
  · simp [e, h.at_ t]⟩
theorem KV.get {kvs : List (Int × D)} {g : Int → Int} (h : KV kvs g) (t : Int) : lif ((asInt (.int t)).map fun k => (valD kvs k).getD (.int 0)) = ret (.int (g t)) := by
  rw [asInt_int, Option.map_some, lif_some, h.at_ t]
def dlt (rs : List Rp) (t : Int) : Int := ((rs.filter fun r => decide (r.lo = t)).length : Int) - ((rs.filter fun r => decide (r.hi + 1 = t)).length : Int)
def rgt (rs : List Rp) (t : Int) : Int := ((rs.filter fun r => decide (r.lo < t)).length : Int) - ((rs.filter fun r => decide (r.hi + 1 < t)).length : Int)
theorem filt_or {α : Type} {p q : α → Bool} (h : ∀ x, p x = true → q x = false) : ∀ xs : List α, (xs.filter fun x => p x || q x).length = (xs.filter p).length + (xs.filter q).length
  | [] => rfl
  | x :: xs => by
    have ih := filt_or h xs
    cases hp : p x with
    | true => simp [hp, h x hp, ih]; omega
    | false => cases hq : q x <;> simp [hp, hq, ih] <;> omega
theorem rgt_step (rs : List Rp) (t : Int) : rgt rs (t + 1) = rgt rs t + dlt rs t := by
  have e1 : (fun r : Rp => decide (r.lo < t + 1)) = fun r => decide (r.lo < t) || decide (r.lo = t) := by
    funext r; rw [Bool.eq_iff_iff]; simp; omega
  have e2 : (fun r : Rp => decide (r.hi + 1 < t + 1)) = fun r => decide (r.hi + 1 < t) || decide (r.hi + 1 = t) := by
    funext r; rw [Bool.eq_iff_iff]; simp; omega
  unfold rgt dlt
  rw [e1, e2, filt_or (fun r h => by simp at h ⊢; omega), filt_or (fun r h => by simp at h ⊢; omega)]
  omega
theorem rgt_cnt {rs : List Rp} (h : TR rs) (t : Int) : rgt rs (t + 1) = cnt rs t := by
  have e1 : rs.filter (fun r : Rp => decide (r.lo < t + 1)) = rs.filter fun r => rightB t r || decide (r.hi + 1 < t + 1) := List.filter_congr fun r hr => by
    have := h.t r hr
    unfold rightB
    rw [Bool.eq_iff_iff]
    simp
    omega
  unfold rgt cnt
  rw [e1, filt_or (fun r h => by unfold rightB at h; simp at h ⊢; omega)]
  omega
theorem rgt_0 {rs : List Rp} (h : TR rs) : rgt rs 0 = 0 := by
  have e1 : rs.filter (fun r => decide (r.lo < 0)) = [] := List.filter_eq_nil_iff.mpr fun r hr => by have := h.t r hr; simp; omega
  have e2 : rs.filter (fun r => decide (r.hi + 1 < 0)) = [] := List.filter_eq_nil_iff.mpr fun r hr => by have := h.t r hr; simp; omega
  unfold rgt
  rw [e1, e2]
  rfl
theorem dlt_snoc (pre : List Rp) (r : Rp) : dlt (pre ++ [r]) = fun t => if t = r.hi + 1 then (if r.hi + 1 = r.lo then dlt pre r.lo + 1 else dlt pre (r.hi + 1)) - 1 else (if t = r.lo then dlt pre r.lo + 1 else dlt pre t) := by
  funext t
  have e0 : dlt (pre ++ [r]) t = dlt pre t + (if r.lo = t then 1 else 0) - (if r.hi + 1 = t then 1 else 0) := by
    unfold dlt
    rw [List.filter_append, List.filter_append, List.length_append, List.length_append]
    by_cases a : r.lo = t <;> by_cases b : r.hi + 1 = t <;> simp only [List.filter_cons, List.filter_nil, a, b, decide_true, decide_false, if_true, if_false, Bool.false_eq_true, List.length_cons, List.length_nil] <;> omega
  rw [e0]
  by_cases a : r.lo = t
  · subst a
    by_cases b : r.hi + 1 = r.lo
    · rw [b]; simp
    · have b' : ¬ r.lo = r.hi + 1 := fun e => b e.symm
      simp [b, b']
  · have a' : ¬ t = r.lo := fun e => a e.symm
    by_cases b : r.hi + 1 = t
    · subst b
      simp [a, a']
    · have b' : ¬ t = r.hi + 1 := fun e => b e.symm
      simp [a, a', b, b']
/-- the changes, report by report -/
theorem np_loop1 (L : Lk) {rs : List Rp} {f : Int} {n : Nat} (hl : rs.length ≤ 30) {w0 : Store} (h0 : w0[n]? = some (.dct [])) : ∃ r' w' s3 s4 s5 s6 kvs, evS L l0_naive_possible [.v (eRs rs), .v (.int f), .v (.loc n), .none, .none, .none, .none, .none, .none, .none] w0 = .nx r' w' ∧ r' = [.v (eRs rs), .v (.int f), .v (.loc n), s3, s4, s5, s6, .none, .none, .none] ∧ w'[n]? = some (.dct kvs) ∧ KV kvs (dlt rs) := by
  obtain ⟨r', w', h1, s3, s4, s5, s6, kvs, rfl, h2, h3, h4⟩ := fo_st (L := L) (s := l0_naive_possible) (xs := rs) (e := eR) (r0 := [.v (eRs rs), .v (.int f), .v (.loc n), .none, .none, .none, .none, .none, .none, .none]) (w0 := w0) rfl (by simp -implicitDefEqProofs []; rfl)
    (fun pre r w => ∃ s3 s4 s5 s6 kvs, r = [.v (eRs rs), .v (.int f), .v (.loc n), s3, s4, s5, s6, .none, .none, .none] ∧ w[n]? = some (.dct kvs) ∧ KV kvs (dlt pre) ∧ kvs.length ≤ 2 * pre.length) ⟨_, _, _, _, [], rfl, h0, ⟨fun t => by simp [valD, dlt]⟩, by simp⟩ (by
      rintro pre r post σ w e ⟨s3, s4, s5, s6, kvs, rfl, h2, h3, h4⟩ J hJ
      have hp : pre.length < rs.length := by rw [e]; simp
      have hn : n < w.length := (List.getElem?_eq_some_iff.mp h2).1
      have l1 : kvs.length < 16777216 := by omega
      have p1 := h3.put r.lo (dlt pre r.lo + 1)
      have l2 := putD_len kvs r.lo (.int (dlt pre r.lo + 1))
      have l3 : (putD kvs r.lo (.int (dlt pre r.lo + 1))).length < 16777216 := by omega
      have g1 := h3.at_ r.lo
      generalize hk1 : putD kvs r.lo (.int (dlt pre r.lo + 1)) = kvs1 at *
      have h5 : (w.set n (.dct kvs1))[n]? = some (.dct kvs1) := List.getElem?_set_self hn
      have g2 := p1.at_ (r.hi + 1)
      have p2 := p1.put (r.hi + 1) ((if r.hi + 1 = r.lo then dlt pre r.lo + 1 else dlt pre (r.hi + 1)) - 1)
      have l4 := putD_len kvs1 (r.hi + 1) (.int ((if r.hi + 1 = r.lo then dlt pre r.lo + 1 else dlt pre (r.hi + 1)) - 1))
      rw [← dlt_snoc] at p2
      generalize hk2 : putD kvs1 (r.hi + 1) (.int ((if r.hi + 1 = r.lo then dlt pre r.lo + 1 else dlt pre (r.hi + 1)) - 1)) = kvs2 at *
      have h6 : ((w.set n (.dct kvs1)).set n (.dct kvs2))[n]? = some (.dct kvs2) := List.getElem?_set_self (by simpa using hn)
      simp -implicitDefEqProofs [l0b_naive_possible, seqE, eK h2, g1, l1, LIM, iteS_at, eW, hk1, eK h5, g2, l3, hk2, nextS_at]
      exact goesS (hJ _ _ ⟨_, _, _, _, kvs2, rfl, List.getElem?_set_self hn, p2, by rw [List.length_append, List.length_singleton]; omega⟩))
  exact ⟨_, _, _, _, _, _, kvs, h1, rfl, h2, h3⟩
end Lw
end
section
/-! the naive functions -/
namespace Lw
open Py
variable {X : List Fd} {k : Nat}
structure NInv (g : Int → Bool) (F : List Rg) (st : Option Int) (t : Int) : Prop where
  neat : Neat F
  lt : ∀ p ∈ F, p.2 + 1 < st.getD t
  sts : ∀ s, st = some s → 0 ≤ s ∧ s < t
  iff : ∀ u, (inR F u ∨ ∃ s, st = some s ∧ s ≤ u ∧ u < t) ↔ 0 ≤ u ∧ u < t ∧ g u = true
theorem NInv.go {g : Int → Bool} {F : List Rg} {st : Option Int} {t : Int} (h : NInv g F st t) (h0 : 0 ≤ t) (hg : g t = true) : NInv g F (some (st.getD t)) (t + 1) := by
  refine ⟨h.neat, fun p hp => h.lt p hp, fun s hs => ?_, fun u => ?_⟩
  · cases hs
    cases st with
    | none => simp only [Option.getD_none]; omega
    | some s => have := h.sts s rfl; simp only [Option.getD_some]; omega
  · have hi := h.iff u
    constructor
    · rintro (q | ⟨s, hs, q1, q2⟩)
      · have := hi.mp (.inl q); exact ⟨this.1, by omega, this.2.2⟩
      · cases hs
        by_cases e : u = t
        · subst e; exact ⟨h0, by omega, hg⟩
        · cases st with
          | none => simp only [Option.getD_none] at q1; omega
          | some s =>
            have := hi.mp (.inr ⟨s, rfl, q1, by omega⟩)
            exact ⟨this.1, by omega, this.2.2⟩
    · rintro ⟨q1, q2, q3⟩
      by_cases e : u = t
      · subst e
        right
        refine ⟨_, rfl, ?_, by omega⟩
        cases st with
        | none => simp
        | some s => have := h.sts s rfl; simp only [Option.getD_some]; omega
      · rcases hi.mpr ⟨q1, by omega, q3⟩ with q | ⟨s, rfl, z1, z2⟩
        · exact .inl q
        · exact .inr ⟨s, rfl, z1, by omega⟩
theorem NInv.stop {g : Int → Bool} {F : List Rg} {s t : Int} (h : NInv g F (some s) t) (hg : g t = false) : NInv g (F ++ [(s, t - 1)]) none (t + 1) := by
  have hs := h.sts s rfl
  refine ⟨h.neat.mk_snoc (fun y hy => h.lt y hy) (by simp only; omega), fun p hp => ?_, fun s hs => (by cases hs), fun u => ?_⟩
  · simp only [Option.getD_none]
    rcases List.mem_append.mp hp with hp | hp
    · have := h.lt p hp; simp only [Option.getD_some] at this; omega
    · rw [List.mem_singleton.mp hp]; simp only; omega
  · have hi := h.iff u
    rw [inR_app, inR_cons]
    simp only [inR_nil, or_false]
    constructor
    · rintro ((q | q) | ⟨_, q, _⟩)
      · have := hi.mp (.inl q); exact ⟨this.1, by omega, this.2.2⟩
      · have := hi.mp (.inr ⟨s, rfl, q.1, by omega⟩); exact ⟨this.1, by omega, this.2.2⟩
      · cases q
    · rintro ⟨q1, q2, q3⟩
      by_cases e : u = t
      · subst e; rw [hg] at q3; cases q3
      · rcases hi.mpr ⟨q1, by omega, q3⟩ with q | ⟨_, e2, z1, z2⟩
        · exact .inl (.inl q)
        · cases e2; exact .inl (.inr ⟨z1, by omega⟩)
theorem NInv.stay {g : Int → Bool} {F : List Rg} {t : Int} (h : NInv g F none t) (hg : g t = false) : NInv g F none (t + 1) := by
  refine ⟨h.neat, fun p hp => by have := h.lt p hp; simp only [Option.getD_none] at this ⊢; omega, fun s hs => (by cases hs), fun u => ?_⟩
  have hi := h.iff u
  constructor
  · rintro (q | ⟨_, q, _⟩)
    · have := hi.mp (.inl q); exact ⟨this.1, by omega, this.2.2⟩
    · cases q
  · rintro ⟨q1, q2, q3⟩
    by_cases e : u = t
    · subst e; rw [hg] at q3; cases q3
    · rcases hi.mpr ⟨q1, by omega, q3⟩ with q | ⟨_, e2, _⟩
      · exact .inl q
      · cases e2
def nend (F : List Rg) (st : Option Int) : List Rg := F ++ match st with
  | none => []
  | some s => [(s, 9999)]
theorem NInv.fin {g : Int → Bool} {F : List Rg} {st : Option Int} (h : NInv g F st 10000) : (∀ p ∈ nend F st, p.1 ≤ p.2) ∧ ∀ u, inR (nend F st) u ↔ 0 ≤ u ∧ u ≤ 9999 ∧ g u = true := by
  unfold nend
  have hi := h.iff
  cases st with
  | none =>
    simp only [List.append_nil]
    refine ⟨fun p hp => h.neat.ne p hp, fun u => ?_⟩
    have := hi u
    constructor
    · intro q
      have := this.mp (.inl q)
      exact ⟨this.1, by omega, this.2.2⟩
    · rintro ⟨q1, q2, q3⟩
      rcases this.mpr ⟨q1, by omega, q3⟩ with q | ⟨_, e2, _⟩
      · exact q
      · cases e2
  | some s =>
    have hs := h.sts s rfl
    refine ⟨fun p hp => ?_, fun u => ?_⟩
    · rcases List.mem_append.mp hp with hp | hp
      · exact h.neat.ne p hp
      · rw [List.mem_singleton.mp hp]; simp only; omega
    · have := hi u
      rw [inR_app, inR_cons]
      simp only [inR_nil, or_false]
      constructor
      · rintro (q | q)
        · have := this.mp (.inl q); exact ⟨this.1, by omega, this.2.2⟩
        · have := this.mp (.inr ⟨s, rfl, q.1, by omega⟩); exact ⟨this.1, by omega, this.2.2⟩
      · rintro ⟨q1, q2, q3⟩
        rcases this.mpr ⟨q1, by omega, q3⟩ with q | ⟨_, e2, z1, z2⟩
        · exact .inl q
        · cases e2; exact .inr ⟨z1, by omega⟩
theorem np_loop2 (L : Lk) (hg0 : L.g 0 = .int 9999) {rs : List Rp} (ht : TR rs) (hl : rs.length ≤ 30) {f : Int} {n : Nat} {kvs : List (Int × D)} (hk : KV kvs (dlt rs)) {w0 : Store} (h0 : w0[n]? = some (.dct kvs)) (s3 s4 s5 s6 : Slot) : ∃ r' t3 F st i,
    evS L l1_naive_possible [.v (eRs rs), .v (.int f), .v (.loc n), s3, s4, s5, s6, .o [], .v .non, .v (.int 0)] w0 = .nx r' w0 ∧ r' = [.v (eRs rs), .v (.int f), .v (.loc n), t3, s4, s5, s6, .o (F.map eG), .v (encO st), .v (.int i)] ∧ NInv (fun t => decide ((rs.length : Int) - f ≤ cnt rs t)) F st 10000 ∧ F.length ≤ 10000 := by
  have hr : rngD 0 (9999 + 1) = some ((List.range 10000).map fun i : Nat => D.int (i : Int)) := rngD0 (n := 10000) (by omega)
  obtain ⟨r', w', h1, t3, F, st, ew, er, h2, h3⟩ := fo_st (L := L) (s := l1_naive_possible) (xs := List.range 10000) (e := fun i : Nat => D.int (i : Int)) (r0 := [.v (eRs rs), .v (.int f), .v (.loc n), s3, s4, s5, s6, .o [], .v .non, .v (.int 0)]) (w0 := w0) rfl (by simp -implicitDefEqProofs [hg0]; rw [show (10000 : Int) = 9999 + 1 from rfl, hr]; rfl)
    (fun pre r w => ∃ t3 F st, w = w0 ∧ r = [.v (eRs rs), .v (.int f), .v (.loc n), t3, s4, s5, s6, .o (F.map eG), .v (encO st), .v (.int (rgt rs pre.length))] ∧ NInv (fun t => decide ((rs.length : Int) - f ≤ cnt rs t)) F st pre.length ∧ F.length ≤ pre.length) ⟨_, [], none, rfl, by rw [show ((([] : List Nat).length : Nat) : Int) = 0 from rfl, rgt_0 ht]; rfl, ⟨.nil, by simp, by simp, fun u => ⟨fun z => (by
        rcases z with z | ⟨_, z, _⟩
        · exact absurd z (inR_nil u)
        · cases z), fun z => by simp at z; omega⟩⟩, by simp⟩ (by
      rintro pre i post r w e ⟨t3, F, st, rfl, rfl, h2, h3⟩ J hJ
      obtain ⟨rfl, hi⟩ := range_at e
      have g1 := hk.at_ (pre.length : Int)
      have g2 := rgt_step rs (pre.length : Int)
      have g3 := rgt_cnt ht (pre.length : Int)
      have hlen : (((pre ++ [pre.length]).length : Nat) : Int) = (pre.length : Int) + 1 := by simp
      rw [hlen] at hJ
      have e1 : rgt rs (pre.length : Int) + dlt rs (pre.length : Int) = cnt rs (pre.length : Int) := by omega
      rw [g3] at hJ
      have lF : F.length < 16777216 := by omega
      have lF2 : F.length + 1 ≤ (pre ++ [pre.length]).length := by simp; omega
      have lF3 : F.length ≤ (pre ++ [pre.length]).length := by simp; omega
      by_cases c : (rs.length : Int) - f ≤ cnt rs (pre.length : Int)
      · have v := h2.go (by omega) (decide_eq_true c)
        have c' : (rs.length : Int) - (cnt rs (pre.length : Int) : Int) ≤ f := by omega
        cases st with
        | none =>
          simp -implicitDefEqProofs [l1b_naive_possible, encO, seqE, eK h0, g1, e1, c', iteS_at, nextS_at]
          exact goesS (hJ _ _ ⟨_, F, _, rfl, rfl, v, lF3⟩)
        | some s =>
          simp -implicitDefEqProofs [l1b_naive_possible, encO, seqE, eK h0, g1, e1, c', iteS_at, nextS_at]
          exact goesS (hJ _ _ ⟨_, F, _, rfl, rfl, v, lF3⟩)
      · have c' : ¬ (rs.length : Int) - (cnt rs (pre.length : Int) : Int) ≤ f := by omega
        cases st with
        | none =>
          have v := h2.stay (decide_eq_false c)
          simp -implicitDefEqProofs [l1b_naive_possible, encO, seqE, eK h0, g1, e1, c', iteS_at, nextS_at]
          exact goesS (hJ _ _ ⟨_, F, none, rfl, rfl, v, lF3⟩)
        | some s =>
          have v := h2.stop (decide_eq_false c)
          simp -implicitDefEqProofs [l1b_naive_possible, encO, seqE, eK h0, g1, e1, c', iteS_at, nextS_at, lF, LIM]
          rw [show F.map eG ++ [D.tup [.int s, .int ((pre.length : Int) - 1)]] = (F ++ [(s, (pre.length : Int) - 1)]).map eG by simp]
          exact goesS (hJ _ _ ⟨_, F ++ [(s, (pre.length : Int) - 1)], none, rfl, rfl, v, by simpa using lF2⟩))
  subst ew er
  refine ⟨_, t3, F, st, _, h1, rfl, ?_, ?_⟩
  · simpa using h2
  · simpa using h3
theorem stpS {L : Lk} {s : S} {ss : Ss} {r0 : Slot} {rr r' : Env} {w w1 : Store} {R : SRes} (h : evS L s (r0 :: rr) w = .nx r' w1) (h2 : evSs L ss r' w1 = R) : evSs L (.cons s ss) (r0 :: rr) w = R := by
  rw [evSs_cons, seqS_at h]; exact h2
theorem at_run {X : List Fd} {k i : Nat} {f : Fd} {ds : List D} (h : (U X).defs i = some f) (hk : 0 < k) {w : Store} {R : Res D} (hm : runF (Lk' X (k - 1)) f ds w = R) : phi (U X) k i ds w = R := by
  rw [at_def (m := runF (Lk' X (k - 1)) f ds) h hk rfl]; exact hm
theorem s_naive_possible (hk : 6 ≤ k) {rs : List Rp} (h : VR rs) {f : Int} (f0 : 0 ≤ f) (f1 : f ≤ 10) (w : Store) : ∃ w', phi (U X) k 108 [eRs rs, .int f] w = .ok (eGs (poss rs f)) w' := by
  have z1 := h.check (X := X) (k := k - 1) (by omega)
  have z2 := li_ok (X := X) (k := k - 1) (by omega) f0 f1
  have hl := h.len
  obtain ⟨r1, w1, s3, s4, s5, s6, kvs, h1, rfl, h2, h3⟩ := np_loop1 (Lk' X (k - 1)) (rs := rs) (f := f) (n := w.length) (by omega) (w0 := w ++ [.dct []]) (by simp)
  obtain ⟨r2, t3, F, st, i, g1, rfl, g2, g3⟩ := np_loop2 (Lk' X (k - 1)) rfl h.tr (by omega) (f := f) h3 h2 s3 s4 s5 s6
  obtain ⟨n1, n2⟩ := g2.fin
  have nl : (nend F st).length ≤ 1000000 := by
    unfold nend
    rw [List.length_append]
    cases st <;> simp <;> omega
  have z3 := s_merged (X := X) (k := k - 1) (by omega) nl
  have em : mrg (nend F st) = poss rs f := by
    obtain ⟨m1, m2⟩ := mrg_spec n1
    obtain ⟨w1, w2⟩ := withM_spec h.tr ((rs.length : Int) - f)
    refine neat_uniq m1 w1 fun t => ?_
    rw [m2, n2 t, w2 t, decide_eq_true_eq]
  rw [em] at z3
  refine ⟨w1, at_run (f := f_naive_possible) rfl (by omega) ?_⟩
  have fin : evSs (Lk' X (k - 1)) b_naive_possible [.v (eRs rs), .v (.int f), .none, .none, .none, .none, .none, .none, .none, .none] w = .rt (eGs (poss rs f)) w1 := by
    unfold b_naive_possible
    refine stpS (r' := [.v (eRs rs), .v (.int f), .none, .none, .none, .none, .none, .none, .none, .none]) (w1 := w) (by simp -implicitDefEqProofs [z1, nextS_at]) ?_
    refine stpS (r' := [.v (eRs rs), .v (.int f), .none, .none, .none, .none, .none, .none, .none, .none]) (w1 := w) (by simp -implicitDefEqProofs [z2, nextS_at]) ?_
    refine stpS (r' := [.v (eRs rs), .v (.int f), .v (.loc w.length), .none, .none, .none, .none, .none, .none, .none]) (w1 := w ++ [.dct []]) (by simp -implicitDefEqProofs [eA, nextS_at]) ?_
    refine stpS h1 ?_
    refine stpS (r' := [.v (eRs rs), .v (.int f), .v (.loc w.length), s3, s4, s5, s6, .o [], .v .non, .v (.int 0)]) (w1 := w1) (by simp -implicitDefEqProofs [nextS_at]) ?_
    refine stpS g1 ?_
    have lF : F.length ≤ 16777216 := by omega
    have lF1 : F.length + 1 ≤ 16777216 := by omega
    cases st with
    | none =>
      have e : nend F none = F := by simp [nend]
      rw [e] at z3
      simp -implicitDefEqProofs [encO, lF, LIM, z3, retS_at]
    | some s =>
      have e : nend F (some s) = F ++ [(s, 9999)] := rfl
      rw [e, eGs, List.map_append] at z3
      simp -implicitDefEqProofs [encO, lF1, LIM, ug0, retS_at]
      simp -implicitDefEqProofs [] at z3
      simp -implicitDefEqProofs [z3, retS_at]
  exact outM_at fin
end Lw
end
section
/-! the largest sets with a common time -/
namespace Lw
open Py
variable {X : List Fd} {k : Nat}
/-! ### the least of some -/
theorem ex_least : ∀ {L : List (List Tx)}, L ≠ [] → ∃ c ∈ L, ∀ d ∈ L, d = c ∨ ltN c d = true
  | [], h => absurd rfl h
  | [x], _ => ⟨x, by simp, fun d hd => .inl (by simpa using hd)⟩
  | x :: y :: r, _ => by
    obtain ⟨c, h1, h2⟩ := ex_least (L := y :: r) (by simp)
    rcases ltN_tri x c with q | q | q
    · refine ⟨x, by simp, fun d hd => ?_⟩
      rcases List.mem_cons.mp hd with rfl | hd
      · exact .inl rfl
      · rcases h2 d hd with rfl | z
        · exact .inr q
        · exact .inr (ltN_tr q z)
    · subst q
      refine ⟨x, by simp, fun d hd => ?_⟩
      rcases List.mem_cons.mp hd with rfl | hd
      · exact .inl rfl
      · exact h2 d hd
    · refine ⟨c, List.mem_cons_of_mem _ h1, fun d hd => ?_⟩
      rcases List.mem_cons.mp hd with rfl | hd
      · exact .inr q
      · exact h2 d hd
/-- the least of the largest sets that are right at once -/
structure MR (rs : List Rp) (c : List Tx) : Prop where
  at_ : ∃ t, 0 ≤ t ∧ t ≤ 9999 ∧ cnt rs t = most rs ∧ rnames rs t = c
  low : ∀ t, 0 ≤ t → t ≤ 9999 → cnt rs t = most rs → rnames rs t = c ∨ ltN c (rnames rs t) = true
def mrL (rs : List Rp) : List (List Tx) := ((pcs rs).filter fun p => decide (cnt rs p.1 = most rs)).map fun p => rnames rs p.1
theorem mr_ex {rs : List Rp} (h : TR rs) : ∃ c, MR rs c ∧ c ∈ mrL rs ∧ ∀ d ∈ mrL rs, d = c ∨ ltN c d = true := by
  obtain ⟨p, hp, e⟩ := most_at h
  have hm : rnames rs p.1 ∈ mrL rs := List.mem_map.mpr ⟨p, List.mem_filter.mpr ⟨hp, decide_eq_true e⟩, rfl⟩
  obtain ⟨c, h1, h2⟩ := ex_least (L := mrL rs) (fun z => by rw [z] at hm; cases hm)
  refine ⟨c, ⟨?_, fun t t0 t1 tc => ?_⟩, h1, h2⟩
  · obtain ⟨q, hq, rfl⟩ := List.mem_map.mp h1
    obtain ⟨q1, q2⟩ := List.mem_filter.mp hq
    have := pcs_same h q1
    exact ⟨q.1, by omega, by omega, of_decide_eq_true q2, rfl⟩
  · obtain ⟨q, hq, z1, z2⟩ := pcs_cover h t0 t1
    have e1 := pcs_cnt h hq z1 z2
    have e2 := pcs_names h hq z1 z2
    rw [e2]
    exact h2 _ (List.mem_map.mpr ⟨q, List.mem_filter.mpr ⟨hq, decide_eq_true (by omega)⟩, rfl⟩)
theorem MR.uniq {rs : List Rp} {c d : List Tx} (h1 : MR rs c) (h2 : MR rs d) : c = d := by
  obtain ⟨t, t0, t1, tc, rfl⟩ := h1.at_
  obtain ⟨u, u0, u1, uc, rfl⟩ := h2.at_
  rcases h1.low u u0 u1 uc with e | e
  · exact e.symm
  · rcases h2.low t t0 t1 tc with z | z
    · exact z
    · have := ltN_tr e z
      rw [ltN_irr] at this
      cases this
theorem MR.len {rs : List Rp} {c : List Tx} (h : MR rs c) : c.length = most rs := by
  obtain ⟨t, t0, t1, tc, rfl⟩ := h.at_
  rw [rnames_len, tc]
theorem s_most_right {rs : List Rp} (h : VR rs) (hk : 6 ≤ k) : ∃ c, MR rs c ∧ phi (U X) k 43 [eRs rs] = ret (tNs c) := by
  obtain ⟨c, h1, h2, h3⟩ := mr_ex h.tr
  refine ⟨c, h1, at_def rfl (by omega) ?_⟩
  have hl := h.len
  have z1 := h.check (X := X) (k := k - 1) (by omega)
  have z2 := s_most_together (X := X) (k := k - 1) (by omega) (rs := rs) (by omega) h.tr
  have z3 := s_pieces (X := X) (k := k - 1) (by omega) (rs := rs) (by omega)
  have z4 := fun t => s_right_names (X := X) (k := k - 1) (by omega) rs t
  have gm := b_min1N (F := mrL rs) (m := most rs) (c := c) (fun d hd => by
    obtain ⟨q, hq, rfl⟩ := List.mem_map.mp hd
    rw [rnames_len, of_decide_eq_true (List.mem_filter.mp hq).2]) h2 h3
  have e : ((pcs rs).filter fun p => decide ((cnt rs p.1 : Int) = (most rs : Int))).map (fun p => D.tup ((rnames rs p.1).map .str)) = (mrL rs).map tNs := by
    unfold mrL
    rw [List.map_map]
    congr 1
    exact List.filter_congr fun p _ => by
      by_cases q : cnt rs p.1 = most rs
      · rw [decide_eq_true q, decide_eq_true (by omega)]
      · rw [decide_eq_false q, decide_eq_false (by omega)]
  rw [← e] at gm
  simp -implicitDefEqProofs [f_most_right, b_most_right, z1, z2, z3, z4, gm]
/-! ### subsets -/
def subsR (rs : List Rp) : List (List Rp) := rs.foldl (fun F r => F ++ F.map fun c => c ++ [r]) [[]]
theorem subsR_snoc (pre : List Rp) (r : Rp) : subsR (pre ++ [r]) = subsR pre ++ (subsR pre).map fun c => c ++ [r] := by simp [subsR]
theorem subsR_ok : ∀ (n : Nat) (rs : List Rp), rs.length = n → (subsR rs).length = 2 ^ n ∧ (∀ c, c ∈ subsR rs ↔ c.Sublist rs) ∧ ∃ r, subsR rs = [] :: r
  | 0, rs, h => by
    obtain rfl := List.eq_nil_of_length_eq_zero h
    exact ⟨rfl, fun c => by simp [subsR], [], rfl⟩
  | n + 1, rs, h => by
    rcases snoc_cases rs with rfl | ⟨ys, b, rfl⟩
    · simp at h
    · obtain ⟨h1, h2, r, h3⟩ := subsR_ok n ys (by simpa using h)
      rw [subsR_snoc]
      refine ⟨by rw [List.length_append, List.length_map, h1, Nat.pow_succ]; omega, fun c => ?_, ?_⟩
      · rw [List.mem_append, List.mem_map, h2]
        constructor
        · rintro (q | ⟨d, hd, rfl⟩)
          · exact q.trans (List.sublist_append_left _ _)
          · exact ((h2 d).mp hd).append (List.Sublist.refl _)
        · intro q
          rcases List.sublist_append_iff.mp q with ⟨l1, l2, rfl, q1, q2⟩
          have : l2 = [] ∨ l2 = [b] := by
            cases q2 with
            | cons _ q2 => left; exact List.sublist_nil.mp q2
            | cons_cons _ q2 => right; rw [List.sublist_nil.mp q2]
          rcases this with rfl | rfl
          · left; simpa using q1
          · right; exact ⟨l1, (h2 l1).mpr q1, rfl⟩
      · exact ⟨r ++ (subsR ys).map fun c => c ++ [b], by rw [h3]; rfl⟩
def leN (a b : List Rp) : Bool := !ltN (b.map (·.nm)) (a.map (·.nm))
def subsS (rs : List Rp) : List (List Rp) := (subsR rs).mergeSort leN
theorem leN_tot (a b : List Rp) : (leN a b || leN b a) = true := by
  unfold leN
  rcases ltN_tri (b.map (·.nm)) (a.map (·.nm)) with q | q | q
  · have : ltN (a.map (·.nm)) (b.map (·.nm)) = false := by
      cases z : ltN (a.map (·.nm)) (b.map (·.nm)) with
      | false => rfl
      | true => have := ltN_tr q z; rw [ltN_irr] at this; cases this
    rw [this]; simp
  · rw [q, ltN_irr]; rfl
  · have : ltN (b.map (·.nm)) (a.map (·.nm)) = false := by
      cases z : ltN (b.map (·.nm)) (a.map (·.nm)) with
      | false => rfl
      | true => have := ltN_tr q z; rw [ltN_irr] at this; cases this
    rw [this]; simp
theorem leN_tr {a b c : List Rp} (h1 : leN a b = true) (h2 : leN b c = true) : leN a c = true := by
  unfold leN at h1 h2 ⊢
  rw [Bool.not_eq_true'] at h1 h2 ⊢
  cases z : ltN (c.map (·.nm)) (a.map (·.nm)) with
  | false => rfl
  | true =>
    rcases ltN_tri (b.map (·.nm)) (a.map (·.nm)) with q | q | q
    · rw [q] at h1; cases h1
    · rw [← q] at z; rw [z] at h2; cases h2
    · have := ltN_tr z q
      rw [this] at h2; cases h2
theorem eqD_R (a b : Rp) : eqD (eR a) (eR b) = decide (a = b) := by
  obtain ⟨n, l, h⟩ := a
  obtain ⟨n2, l2, h2⟩ := b
  simp only [eR, eqD_tup, eqL_cons, eqD_str, eqD_int, eqL_nil, Bool.and_true]
  rw [Bool.eq_iff_iff]
  simp
theorem lt_names {rs : List Rp} (hn : (rs.map (·.nm)).Nodup) : ∀ {x y : List Rp}, (∀ r ∈ x, r ∈ rs) → (∀ r ∈ y, r ∈ rs) → Py.ltGl (x.map eR) (y.map eR) = ltN (x.map (·.nm)) (y.map (·.nm))
  | [], [], _, _ => by simp [ltGl, ltN]
  | [], _ :: _, _, _ => by simp [ltGl, ltN]
  | _ :: _, [], _, _ => by simp [ltGl, ltN]
  | a :: x, b :: y, hx, hy => by
    have ih := lt_names hn (x := x) (y := y) (fun r hr => hx r (by simp [hr])) (fun r hr => hy r (by simp [hr]))
    rw [List.map_cons, List.map_cons, ltGl, ih, eqD_R, List.map_cons, List.map_cons, ltN]
    by_cases e : a = b
    · subst e; simp [txLt_irr]
    · have ne : a.nm ≠ b.nm := fun q => e (nm_inj hn (hx a (by simp)) (hy b (by simp)) q)
      have ne2 : (a.nm == b.nm) = false := by simp [ne]
      rw [decide_eq_false e, if_neg (by decide)]
      show Py.ltG (.tup [.str a.nm, .int a.lo, .int a.hi]) (.tup [.str b.nm, .int b.lo, .int b.hi]) = _
      rw [Py.ltG, ltGl, eqD_str, ne2, if_neg (by decide), Py.ltG]
      rcases txLt_tri a.nm b.nm with q | q | q
      · simp [q]
      · exact absurd q ne
      · simp [q, txLt_asym q]
theorem like_R : ∀ a b : List Rp, likeL (a.map eR) (b.map eR) = true
  | [], _ => by simp [likeL]
  | _ :: _, [] => by simp [likeL]
  | x :: r, y :: t => by
    rw [List.map_cons, List.map_cons, likeL, like_R r t]
    simp [likeD, likeL]
theorem s_subsets {rs : List Rp} (hv : VR rs) (hk : 1 ≤ k) : phi (U X) k 102 [eRs rs] = ret (.lst ((subsS rs).map eRs)) := at_def rfl (by omega) (by
  have hl := hv.len
  obtain ⟨r', h1, s2, s3, rfl⟩ := fo_invJ (L := Lk' X (k - 1)) (s := l0_subsets) (xs := rs) (e := eR) (r0 := [.v (eRs rs), .v (.lst [.tup []]), .none, .none]) rfl (by simp -implicitDefEqProofs [])
    (fun pre r => ∃ s2 s3, r = [.v (eRs rs), .v (.lst ((subsR pre).map eRs)), s2, s3]) ⟨_, _, rfl⟩ (by
      rintro pre r0 post r e ⟨s2, s3, rfl⟩ J hJ
      have hp : pre.length < rs.length := by rw [e]; simp
      obtain ⟨hs1, hs2, _⟩ := subsR_ok pre.length pre rfl
      rw [subsR_snoc] at hJ
      generalize subsR pre = F at *
      have p10 : 2 ^ pre.length ≤ 1024 := Nat.pow_le_pow_right (n := 2) (by decide) (show pre.length ≤ 10 by omega)
      have hc : (compM F fun c => if c.length ≤ 16777215 then ret (some (D.tup (c.map eR ++ [eR r0]))) else noexc fail) = ret (F.map fun c => eRs (c ++ [r0])) := compM_ok fun c hc => by
        have cl := ((hs2 c).mp hc).length_le
        rw [if_pos (by omega)]
        simp
      have em : (F.map fun c => c ++ [r0]).map eRs = F.map fun c => D.tup (c.map eR ++ [eR r0]) := by
        rw [List.map_map]
        exact List.map_congr_left fun c _ => by simp
      have l1 : F.length + F.length ≤ 16777216 := by omega
      simp -implicitDefEqProofs [l0b_subsets, LIM]
      simp -implicitDefEqProofs [] at hc
      simp -implicitDefEqProofs [hc, l1]
      simp only [List.map_append, em] at hJ
      exact goes (hJ _ ⟨_, _, rfl⟩))
  obtain ⟨n1, n2, r, n3⟩ := subsR_ok rs.length rs rfl
  have p10 : 2 ^ rs.length ≤ 1024 := Nat.pow_le_pow_right (n := 2) (by decide) hl
  have hsort : bltD .sortedN [.lst ((subsR rs).map eRs)] = some (.lst ((subsS rs).map eRs)) := by
    have al : allLike ((subsR rs).map eRs) = true := by
      unfold allLike
      rw [List.all_eq_true]
      intro x hx
      obtain ⟨d, hd, rfl⟩ := List.mem_map.mp hx
      rw [Bool.and_eq_true]
      refine ⟨by simp, ?_⟩
      rw [List.all_eq_true]
      intro y hy
      obtain ⟨d2, hd2, rfl⟩ := List.mem_map.mp hy
      rw [likeD]
      exact like_R d d2
    have mx : mixed ((subsR rs).map eRs) = true := by
      rw [n3]
      show (r.map eRs).all isTp = true
      rw [List.all_map, List.all_eq_true]
      exact fun _ _ => rfl
    have ln : ((subsR rs).map eRs).length ≤ LIM := by rw [List.length_map, n1]; show 2 ^ rs.length ≤ 16777216; omega
    rw [bltD, sortedND, al, mx]
    simp only [Bool.true_or, Bool.true_and, decide_eq_true ln, if_true]
    congr 2
    unfold subsS
    rw [List.map_mergeSort]
    intro a ha b hb
    show (!ltN (b.map (·.nm)) (a.map (·.nm))) = !Py.ltG (eRs b) (eRs a)
    rw [Py.ltG, lt_names hv.nd (fun r hr => ((n2 b).mp hb).subset hr) (fun r hr => ((n2 a).mp ha).subset hr)]
  simp -implicitDefEqProofs [f_subsets, b_subsets, h1, hsort])
def comB (c : List Rp) : Bool := c.isEmpty || decide (((c.map (·.lo)).max?.getD 0) ≤ ((c.map (·.hi)).min?.getD 0))
theorem s_have_common (hk : 1 ≤ k) (c : List Rp) : phi (U X) k 103 [eRs c] = ret (.bl (comB c)) := at_def rfl (by omega) (by
  cases c with
  | nil => simp -implicitDefEqProofs [f_have_common_time, b_have_common_time, comB]
  | cons x r =>
    have g1 := b_max1I ((x :: r).map (·.lo))
    have g2 := b_min1I ((x :: r).map (·.hi))
    obtain ⟨M, hM⟩ : ∃ M, ((x :: r).map (·.lo)).max? = some M := ⟨_, List.max?_cons'⟩
    obtain ⟨N, hN⟩ : ∃ N, ((x :: r).map (·.hi)).min? = some N := ⟨_, List.min?_cons'⟩
    have e : comB (x :: r) = decide (M ≤ N) := by unfold comB; rw [hM, hN]; rfl
    rw [hM, List.map_map] at g1
    rw [hN, List.map_map] at g2
    rw [e]
    have hne : (x :: r).isEmpty = false := rfl
    generalize x :: r = c at *
    simp -implicitDefEqProofs [] at g1 g2
    simp -implicitDefEqProofs [f_have_common_time, b_have_common_time, g1, g2, hne])
theorem comB_iff {c : List Rp} (h : TR c) : comB c = true ↔ c = [] ∨ ∃ t, 0 ≤ t ∧ t ≤ 9999 ∧ ∀ r ∈ c, rightB t r = true := by
  cases c with
  | nil => simp [comB]
  | cons x r =>
    obtain ⟨M, hM⟩ : ∃ M, ((x :: r).map (·.lo)).max? = some M := ⟨_, List.max?_cons'⟩
    obtain ⟨N, hN⟩ : ∃ N, ((x :: r).map (·.hi)).min? = some N := ⟨_, List.min?_cons'⟩
    obtain ⟨m1, m2⟩ := List.max?_eq_some_iff.mp hM
    obtain ⟨n1, n2⟩ := List.min?_eq_some_iff.mp hN
    have e : comB (x :: r) = decide (M ≤ N) := by unfold comB; rw [hM, hN]; rfl
    rw [e, decide_eq_true_eq]
    constructor
    · intro q
      right
      obtain ⟨y, hy, rfl⟩ := List.mem_map.mp m1
      have := h.t y hy
      refine ⟨y.lo, this.1, by omega, fun z hz => ?_⟩
      have a1 := m2 z.lo (List.mem_map.mpr ⟨z, hz, rfl⟩)
      have a2 := n2 z.hi (List.mem_map.mpr ⟨z, hz, rfl⟩)
      unfold rightB
      simp only [Bool.and_eq_true, decide_eq_true_eq]
      omega
    · rintro (q | ⟨t, _, _, q⟩)
      · cases q
      · obtain ⟨y, hy, rfl⟩ := List.mem_map.mp m1
        obtain ⟨z, hz, rfl⟩ := List.mem_map.mp n1
        have a1 := q y hy
        have a2 := q z hz
        unfold rightB at a1 a2
        simp only [Bool.and_eq_true, decide_eq_true_eq] at a1 a2
        omega
/-! ### the naive function -/
def nb (b c : List Rp) : List Rp := if b.length < c.length ∧ comB c = true then c else b
structure NB (pre : List (List Rp)) (b : List Rp) : Prop where
  mem : b = [] ∨ b ∈ pre
  com : comB b = true
  long : ∀ c ∈ pre, comB c = true → c.length ≤ b.length
  first : ∀ c ∈ pre, comB c = true → c.length = b.length → ltN (c.map (·.nm)) (b.map (·.nm)) = false
theorem nb_fold {S : List (List Rp)} (hp : S.Pairwise fun a b => leN a b = true) : ∀ (n : Nat) (pre post : List (List Rp)), pre.length = n → S = pre ++ post → NB pre (pre.foldl nb []) := by
  intro n
  induction n with
  | zero =>
    intro pre post hn e
    obtain rfl := List.eq_nil_of_length_eq_zero hn
    exact ⟨.inl rfl, rfl, by simp, by simp⟩
  | succ n ih =>
    intro pre post hn e
    rcases snoc_cases pre with rfl | ⟨pre, x, rfl⟩
    · simp at hn
    have h := ih pre (x :: post) (by simpa using hn) (by rw [e]; simp)
    have hx : ∀ c ∈ pre, leN c x = true := fun c hc => by
      rw [e, List.append_assoc, List.pairwise_append] at hp
      exact hp.2.2 c hc x (by simp)
    rw [List.foldl_append, List.foldl_cons, List.foldl_nil]
    generalize pre.foldl nb [] = b at *
    unfold nb
    by_cases q : b.length < x.length ∧ comB x = true
    · rw [if_pos q]
      refine ⟨.inr (by simp), q.2, fun c hc cc => ?_, fun c hc cc cl => ?_⟩
      · rcases List.mem_append.mp hc with hc | hc
        · have := h.long c hc cc; omega
        · rw [List.mem_singleton.mp hc]; exact Nat.le_refl _
      · rcases List.mem_append.mp hc with hc | hc
        · have := h.long c hc cc; omega
        · rw [List.mem_singleton.mp hc]; exact ltN_irr _
    · rw [if_neg q]
      refine ⟨by rcases h.mem with z | z; exact .inl z; exact .inr (by simp [z]), h.com, fun c hc cc => ?_, fun c hc cc cl => ?_⟩
      · rcases List.mem_append.mp hc with hc | hc
        · exact h.long c hc cc
        · rw [List.mem_singleton.mp hc] at cc ⊢
          exact Nat.not_lt.mp fun z => q ⟨z, cc⟩
      · rcases List.mem_append.mp hc with hc | hc
        · exact h.first c hc cc cl
        · rw [List.mem_singleton.mp hc] at cl ⊢
          rcases h.mem with z | z
          · subst z
            have : x = [] := List.eq_nil_of_length_eq_zero cl
            rw [this]; exact ltN_irr _
          · have := hx b z
            unfold leN at this
            rwa [Bool.not_eq_true'] at this
theorem s_naive_most {rs : List Rp} (hv : VR rs) {c0 : List Tx} (hm : MR rs c0) (hk : 6 ≤ k) : phi (U X) k 104 [eRs rs] = ret (tNs c0) := at_def rfl (by omega) (by
  have z1 := hv.check (X := X) (k := k - 1) (by omega)
  have z2 := s_subsets (X := X) (k := k - 1) hv (by omega)
  obtain ⟨n1, n2, _⟩ := subsR_ok rs.length rs rfl
  have hp : (subsS rs).Pairwise fun a b => leN a b = true := List.pairwise_mergeSort (le := leN) (fun a b c h1 h2 => leN_tr h1 h2) leN_tot (subsR rs)
  have hmem : ∀ c, c ∈ subsS rs ↔ c.Sublist rs := fun c => by unfold subsS; rw [(List.mergeSort_perm _ _).mem_iff, n2]
  have fin := nb_fold hp _ (subsS rs) [] rfl (by simp)
  obtain ⟨r', h1, s2, rfl⟩ := fo_invJ (L := Lk' X (k - 1)) (s := l0_naive_most_right) (xs := subsS rs) (e := eRs) (r0 := [.v (eRs rs), .v (.tup []), .none, .none, .none, .none]) rfl (by simp -implicitDefEqProofs [z2])
    (fun pre r => ∃ s2, r = [.v (eRs rs), .v (eRs (pre.foldl nb [])), s2, .none, .none, .none]) ⟨_, rfl⟩ (by
      rintro pre c post r e ⟨s2, rfl⟩ J hJ
      have z3 := s_have_common (X := X) (k := k - 1) (by omega) c
      rw [List.foldl_append, List.foldl_cons, List.foldl_nil] at hJ
      generalize pre.foldl nb [] = b at *
      by_cases q : b.length < c.length
      · cases q2 : comB c with
        | true =>
          have en : nb b c = c := by unfold nb; rw [if_pos ⟨q, q2⟩]
          rw [en] at hJ
          rw [q2] at z3
          simp -implicitDefEqProofs [l0b_naive_most_right, q, z3]
          exact goes (hJ _ ⟨_, rfl⟩)
        | false =>
          have en : nb b c = b := by unfold nb; rw [if_neg (fun z => by rw [q2] at z; cases z.2)]
          rw [en] at hJ
          rw [q2] at z3
          simp -implicitDefEqProofs [l0b_naive_most_right, q, z3]
          exact goes (hJ _ ⟨_, rfl⟩)
      · have en : nb b c = b := by unfold nb; rw [if_neg (fun z => q z.1)]
        rw [en] at hJ
        simp -implicitDefEqProofs [l0b_naive_most_right, q]
        exact goes (hJ _ ⟨_, rfl⟩))
  generalize (subsS rs).foldl nb [] = b at *
  have bs : b.Sublist rs := by
    rcases fin.mem with z | z
    · rw [z]; exact List.nil_sublist _
    · exact (hmem b).mp z
  obtain ⟨t, t0, t1, tc, tn⟩ := hm.at_
  have cs : (rs.filter (rightB t)).Sublist rs := List.filter_sublist
  have cm : rs.filter (rightB t) ∈ subsS rs := (hmem _).mpr cs
  have ccom : comB (rs.filter (rightB t)) = true := (comB_iff ⟨fun r hr => hv.tr.t r (cs.subset hr)⟩).mpr (.inr ⟨t, t0, t1, fun r hr => (List.mem_filter.mp hr).2⟩)
  have cl : (rs.filter (rightB t)).length = most rs := tc
  have bl := fin.long _ cm ccom
  have key : b.map (·.nm) = c0 := by
    rcases (comB_iff (c := b) ⟨fun r hr => hv.tr.t r (bs.subset hr)⟩).mp fin.com with z | ⟨u, u0, u1, ur⟩
    · subst z
      have : c0.length = 0 := by rw [hm.len]; rw [cl] at bl; simpa using bl
      rw [List.eq_nil_of_length_eq_zero this]; rfl
    · have b2 : b.Sublist (rs.filter (rightB u)) := by
        have := bs.filter (rightB u)
        rwa [List.filter_eq_self.mpr ur] at this
      have l1 := b2.length_le
      have l2 := most_ge hv.tr u0 u1
      have l3 : (rs.filter (rightB u)).length = cnt rs u := rfl
      have be : b = rs.filter (rightB u) := b2.eq_of_length (by omega)
      have e1 : b.map (·.nm) = rnames rs u := by rw [be]; rfl
      rcases hm.low u u0 u1 (by rw [← l3, ← be]; omega) with q | q
      · rw [e1]; exact q
      · have := fin.first _ cm ccom (by rw [cl]; have := congrArg List.length be; omega)
        rw [e1, show (rs.filter (rightB t)).map (·.nm) = c0 from tn, q] at this
        cases this
  rw [← key]
  simp -implicitDefEqProofs [f_naive_most_right, b_naive_most_right, z1, h1])
end Lw
end
section
namespace Lw
def l0b_w_error : Py.Ss := (.cons (.ifs (.cmp .eq (.var 0) (.cst (.int 0))) (.cons (.exp (.call 108 (.cons (.var 1) (.cons (.var 2) .nil))))
    .nil) (.cons (.exp (.call 104 (.cons (.var 1) .nil)))
    .nil))
    .nil)
def l0_w_error : Py.S := .trx l0b_w_error (some 3) (.cons (.retE (.idx (.lst (.cons (.ise 3 1) (.cons (.ise 3 5) .nil))) (.cst (.bl true))))
    .nil)
def b_w_error : Py.Ss := (.cons l0_w_error
    (.cons (.retE (.cst .non))
    .nil))
def f_w_error : Py.Fd := ⟨3, 4, b_w_error⟩
def l0b_w_most : Py.Ss := (.cons (.app 1 (.blt .tuple (.cons (.cmpi (.nm 6) (.seq (.var 0)) (.cmp2 .le .le (.sub (.var 6) (.cst (.int 1))) (.var 3) (.sub (.var 6) (.cst (.int 2)))) (.sub (.var 6) (.cst (.int 0)))) .nil)))
    .nil)
def l0_w_most : Py.S := .fo (.tp [2, 3, 4]) (.seq (.var 0)) l0b_w_most
def b_w_most : Py.Ss := (.cons (.own 1 (.lst (.cons (.tup .nil) .nil)))
    (.cons l0_w_most
    (.cons (.retE (.blt .min1 (.cons (.cmpi (.nm 5) (.seq (.peek 1)) (.cmp .eq (.blt .len (.cons (.var 5) .nil)) (.blt .max1I (.cons (.cmp0 (.nm 7) (.seq (.peek 1)) (.blt .len (.cons (.var 7) .nil))) .nil))) (.var 5)) .nil)))
    .nil)))
def f_w_most : Py.Fd := ⟨1, 8, b_w_most⟩
def b_wlaw : Py.Ss := (.cons (.par [(false, 5), (false, 6)] (.cons (.call 98 (.cons (.var 0) (.cons (.cst (.int 10)) (.cons (.cst (.int 7)) .nil)))) (.cons (.call 88 (.cons (.var 0) (.cons (.cst (.int 1)) (.cons (.cst (.int 6)) .nil)))) .nil)))
    (.cons (.asg 1 (.call 99 (.cons (.var 5) (.cons (.var 6) .nil))))
    (.cons (.ifs (.or (.cmp .ne (.call 108 (.cons (.var 5) (.cons (.var 6) .nil))) (.var 1)) (.cmp .ne (.call 24 (.cons (.var 5) (.cons (.var 6) .nil))) (.var 1))) (.cons (.retE (.cst (.bl false)))
    .nil) .nil)
    (.cons (.ifs (.cmp .ne (.call 104 (.cons (.var 5) .nil)) (.call 201 (.cons (.var 5) .nil))) (.cons (.retE (.cst (.bl false)))
    .nil) .nil)
    (.cons (.ifs (.cmp .ne (.call 43 (.cons (.var 5) .nil)) (.call 201 (.cons (.var 5) .nil))) (.cons (.retE (.cst (.bl false)))
    .nil) .nil)
    (.cons (.ifs (.cmp .ne (.call 28 (.cons (.var 5) .nil)) (.bin .sub (.blt .len (.cons (.var 5) .nil)) (.blt .len (.cons (.call 201 (.cons (.var 5) .nil)) .nil)))) (.cons (.retE (.cst (.bl false)))
    .nil) .nil)
    (.cons (.asg 2 (.sub (.lst (.cons (.cst .non) (.cons (.lst .nil) (.cons (.cst (.str [97])) (.cons (.tup (.cons (.tup (.cons (.cst (.str [97])) (.cons (.cst (.int 2)) (.cons (.cst (.int 1)) .nil)))) .nil)) (.cons (.tup (.cons (.tup (.cons (.cst (.str [98])) (.cons (.cst (.int 1)) (.cons (.cst (.int 2)) .nil)))) (.cons (.tup (.cons (.cst (.str [97])) (.cons (.cst (.int 1)) (.cons (.cst (.int 2)) .nil)))) .nil))) (.cons (.tup (.cons (.tup (.cons (.cst (.str [97])) (.cons (.cst (.int 1)) .nil))) .nil)) .nil))))))) (.call 88 (.cons (.var 0) (.cons (.cst (.int 2)) (.cons (.cst (.int 6)) .nil))))))
    (.cons (.asg 3 (.sub (.lst (.cons (.cst .non) (.cons (.neg (.cst (.int 1))) (.cons (.cst (.int 11)) (.cons (.cst (.bl true)) (.cons (.cst (.str [49])) .nil)))))) (.call 88 (.cons (.var 0) (.cons (.cst (.int 3)) (.cons (.cst (.int 5)) .nil))))))
    (.cons (.asg 4 (.lst (.cons (.call 200 (.cons (.cst (.int 0)) (.cons (.var 2) (.cons (.var 3) .nil)))) (.cons (.call 200 (.cons (.cst (.int 0)) (.cons (.var 5) (.cons (.var 3) .nil)))) (.cons (.call 200 (.cons (.cst (.int 1)) (.cons (.var 2) (.cons (.cst (.int 0)) .nil)))) .nil)))))
    (.cons (.retE (.cmp .eq (.var 4) (.lst (.cons (.cst (.int 0)) (.cons (.cst (.int 1)) (.cons (.cst (.int 0)) .nil))))))
    .nil))))))))))
def f_wlaw : Py.Fd := ⟨1, 7, b_wlaw⟩
def X : List Py.Fd := [f_w_error, f_w_most, f_wlaw]
def lawi : Nat := 202
/-- the longest chain of calls: 8 -/
def lawk : Nat := 8
end Lw
end
section
namespace Lw
open Py
variable {k : Nat}
theorem ex_max {α : Type} (g : α → Nat) : ∀ {L : List α}, L ≠ [] → ∃ c ∈ L, ∀ d ∈ L, g d ≤ g c
  | [], h => absurd rfl h
  | [x], _ => ⟨x, by simp, by simp⟩
  | x :: y :: r, _ => by
    obtain ⟨c, h1, h2⟩ := ex_max g (L := y :: r) (by simp)
    by_cases q : g x ≤ g c
    · refine ⟨c, List.mem_cons_of_mem _ h1, fun d hd => ?_⟩
      rcases List.mem_cons.mp hd with rfl | hd
      · exact q
      · exact h2 d hd
    · refine ⟨x, by simp, fun d hd => ?_⟩
      rcases List.mem_cons.mp hd with rfl | hd
      · exact Nat.le_refl _
      · have := h2 d hd; omega
theorem s_wmost {rs : List Rp} (hv : VR rs) {c0 : List Tx} (hm : MR rs c0) (hk : 1 ≤ k) : phi (U X) k 201 [eRs rs] = ret (tNs c0) := at_def rfl (by omega) (by
  have hl := hv.len
  obtain ⟨L, hL⟩ : ∃ L, L = ([] : List Tx) :: rs.map fun r => rnames rs r.lo := ⟨_, rfl⟩
  obtain ⟨r', h1, s2, s3, s4, rfl⟩ := fo_invJ (L := Lk' X (k - 1)) (s := l0_w_most) (xs := rs) (e := eR) (r0 := [.v (eRs rs), .o [.tup []], .none, .none, .none, .none, .none, .none]) rfl (by simp -implicitDefEqProofs [])
    (fun pre r => ∃ s2 s3 s4, r = [.v (eRs rs), .o ((([] : List Tx) :: pre.map fun r => rnames rs r.lo).map tNs), s2, s3, s4, .none, .none, .none]) ⟨_, _, _, rfl⟩ (by
      rintro pre r0 post r e ⟨s2, s3, s4, rfl⟩ J hJ
      have hp : pre.length < rs.length := by rw [e]; simp
      have lp : pre.length + 1 < 16777216 := by omega
      have hc : (compM rs fun x => if x.lo ≤ r0.lo then (if r0.lo ≤ x.hi then ret (some (D.str x.nm)) else ret none) else ret none) = ret ((rnames rs r0.lo).map .str) := by
        rw [compM_congr (g := fun x : Rp => if (x.lo ≤ r0.lo ∧ r0.lo ≤ x.hi) then ret (some (D.str x.nm)) else ret none) fun x _ => by
          by_cases q1 : x.lo ≤ r0.lo <;> by_cases q2 : r0.lo ≤ x.hi <;> simp [q1, q2], compM_if (c := fun x : Rp => x.lo ≤ r0.lo ∧ r0.lo ≤ x.hi) (f := fun x => D.str x.nm)]
        unfold rnames
        rw [List.map_map]
        congr 2
        exact List.filter_congr fun x _ => by unfold rightB; rw [Bool.eq_iff_iff]; simp
      simp -implicitDefEqProofs [l0b_w_most, ixN, hc, LIM, lp]
      simp only [List.map_append, List.map_cons, List.map_nil] at hJ
      simp -implicitDefEqProofs [] at hJ
      exact goes (hJ _ _ _ _ rfl))
  rw [← hL] at h1
  obtain ⟨t, t0, t1, tc, tn⟩ := hm.at_
  have h0L : ([] : List Tx) ∈ L := by rw [hL]; simp
  have hle : ∀ d ∈ L, d.length ≤ most rs := fun d hd => by
    rw [hL] at hd
    rcases List.mem_cons.mp hd with rfl | hd
    · simp
    · obtain ⟨r, hr, rfl⟩ := List.mem_map.mp hd
      have := hv.tr.t r hr
      rw [rnames_len]
      exact most_ge hv.tr this.1 (by omega)
  have hlow : ∀ d ∈ L, d.length = most rs → d = c0 ∨ ltN c0 d = true := fun d hd e => by
    rw [hL] at hd
    rcases List.mem_cons.mp hd with rfl | hd
    · left
      have : c0.length = 0 := by rw [hm.len, ← e]; rfl
      exact (List.eq_nil_of_length_eq_zero this).symm
    · obtain ⟨r, hr, rfl⟩ := List.mem_map.mp hd
      have := hv.tr.t r hr
      rw [rnames_len] at e
      exact hm.low r.lo this.1 (by omega) e
  have hin : c0 ∈ L := by
    cases hF : rs.filter (rightB t) with
    | nil =>
      have : c0 = [] := by rw [← tn]; unfold rnames; rw [hF]; rfl
      rw [this]; exact h0L
    | cons x0 xr =>
      obtain ⟨x, hx, hmax⟩ := ex_max (fun r : Rp => r.lo.toNat) (L := rs.filter (rightB t)) (by rw [hF]; simp)
      obtain ⟨x1, x2⟩ := List.mem_filter.mp hx
      have xt := hv.tr.t x x1
      have sub : rs.filter (rightB t) = rs.filter (rightB x.lo) := by
        have s1 : (rs.filter (rightB t)).Sublist (rs.filter (rightB x.lo)) := by
          have := (List.filter_sublist (p := rightB t) (l := rs)).filter (rightB x.lo)
          rwa [List.filter_eq_self.mpr fun r hr => by
            obtain ⟨r1, r2⟩ := List.mem_filter.mp hr
            have a1 := hmax r hr
            have a2 := hv.tr.t r r1
            unfold rightB at r2 x2 ⊢
            simp only [Bool.and_eq_true, decide_eq_true_eq] at r2 x2 ⊢
            omega] at this
        refine s1.eq_of_length_le ?_
        have := most_ge hv.tr xt.1 (show x.lo ≤ 9999 by omega)
        have e1 : (rs.filter (rightB t)).length = most rs := tc
        have e2 : (rs.filter (rightB x.lo)).length = cnt rs x.lo := rfl
        omega
      rw [hL]
      refine List.mem_cons_of_mem _ (List.mem_map.mpr ⟨x, x1, ?_⟩)
      rw [← tn]
      unfold rnames
      rw [sub]
  have gmax : bltD .max1I [.lst (L.map fun c => D.int (c.length : Int))] = some (.int (most rs : Int)) := by
    have := b_max1I (L.map fun c => (c.length : Int))
    rw [max_is (m := (most rs : Int)) (List.mem_map.mpr ⟨c0, hin, by rw [hm.len]⟩) (fun n hn => by
      obtain ⟨d, hd, rfl⟩ := List.mem_map.mp hn
      have := hle d hd
      omega), List.map_map] at this
    exact this
  have gm := b_min1N (F := L.filter fun c => decide ((c.length : Int) = (most rs : Int))) (m := most rs) (c := c0) (fun d hd => by
    have := of_decide_eq_true (List.mem_filter.mp hd).2; omega) (List.mem_filter.mpr ⟨hin, decide_eq_true (by rw [hm.len])⟩) (fun d hd => by
    obtain ⟨d1, d2⟩ := List.mem_filter.mp hd
    have := of_decide_eq_true d2
    exact hlow d d1 (by omega))
  generalize L = L' at *
  simp -implicitDefEqProofs [f_w_most, b_w_most]
  simp -implicitDefEqProofs [h1, gmax, gm])
def badR : List D := [.non, .lst [], .str [97], .tup [.tup [.str [97], .int 2, .int 1]], .tup [.tup [.str [98], .int 1, .int 2], .tup [.str [97], .int 1, .int 2]], .tup [.tup [.str [97], .int 1]]]
def badL : List D := [.non, .int (-1), .int 11, .bl true, .str [49]]
theorem badR_no : ∀ v ∈ badR, areReps v = false ∧ pl 6 v = true := by decide +kernel
theorem badL_no : ∀ v ∈ badL, isLi v = false ∧ okD v = true := by decide +kernel
theorem np_bad1 (hk : 6 ≤ k) {r : D} {n : Nat} (h : pl (n + 1) r = true) (hr : areReps r = false) (l : D) : phi (U X) k 108 [r, l] = rse 1 := at_def rfl (by omega) (by
  have z1 := s_check_reports (X := X) (k := k - 1) (by omega) h
  rw [hr] at z1
  simp -implicitDefEqProofs [f_naive_possible, b_naive_possible, z1])
theorem np_bad5 (hk : 6 ≤ k) {rs : List Rp} (h : VR rs) {l : D} (hl : okD l = true) (h2 : isLi l = false) : phi (U X) k 108 [eRs rs, l] = rse 5 := at_def rfl (by omega) (by
  have z1 := h.check (X := X) (k := k - 1) (by omega)
  have z2 := s_check_liars (X := X) (k := k - 1) (by omega) hl
  rw [h2] at z2
  simp -implicitDefEqProofs [f_naive_possible, b_naive_possible, z1, z2])
theorem nm_bad1 (hk : 6 ≤ k) {r : D} {n : Nat} (h : pl (n + 1) r = true) (hr : areReps r = false) : phi (U X) k 104 [r] = rse 1 := at_def rfl (by omega) (by
  have z1 := s_check_reports (X := X) (k := k - 1) (by omega) h
  rw [hr] at z1
  simp -implicitDefEqProofs [f_naive_most_right, b_naive_most_right, z1])
theorem s_err (hk : 1 ≤ k) {w : Int} {v0 v1 : D} {c : Nat} (hc : c = 1 ∨ c = 5) (hb : evSs (Lk' X (k - 1)) l0b_w_error [.v (.int w), .v v0, .v v1, .none] = rseS c [.v (.int w), .v v0, .v v1, .none]) : phi (U X) k 200 [.int w, v0, v1] = ret (.int (if c = 1 then 0 else 1)) := at_def rfl (by omega) (by
  have h1 : evS (Lk' X (k - 1)) l0_w_error [.v (.int w), .v v0, .v v1, .none] = retS (.int (if c = 1 then 0 else 1)) := by
    rw [l0_w_error, evS_trx, catch_ex hb]
    rcases hc with rfl | rfl <;> simp -implicitDefEqProofs [indexD, calm_ret] <;> rfl
  simp -implicitDefEqProofs [f_w_error, b_w_error, h1])
theorem sub_in {xs : List D} {j : Int} (h0 : 0 ≤ j) (h1 : j < xs.length) : ∃ v ∈ xs, subD (.lst xs) (.int j) = some v := by
  obtain ⟨i, rfl⟩ : ∃ i : Nat, j = i := ⟨j.toNat, by omega⟩
  have hi : i < xs.length := by omega
  have e : ixN xs.length (i : Int) = some i := by
    unfold ixN
    rw [if_pos (by omega), if_pos (by omega)]
    simp
  exact ⟨xs[i], List.getElem_mem hi, by rw [sub_l, e, Option.bind_some, List.getElem?_eq_getElem hi]⟩
theorem law_true (ns : List Int) (hl : ns.length ≤ 63) : ∃ w', phi (U X) 8 202 [eScr ns] [] = .ok (.bl true) w' := by
  have z1 := s_reports2 (X := X) (k := 7) (by omega) hl (place := 10) (most := 7) (by decide) (by decide) (by decide) (by decide)
  obtain ⟨hx, h7⟩ := lreps2_nx (ns := ns) (place := 10) (most := 7) (by decide) (by decide)
  have dr : ∀ {i m : Int}, 0 ≤ i → i < 99999 → 0 < m → phi (U X) 7 88 [eScr ns, .int i, .int m] = ret (.int (drw ns i m)) := fun a b c => s_drawn (by omega) hl a b c
  generalize lreps2 ns 10 7 = rs at *
  have hv := hx.vr
  have hrl := hv.len
  have d1 := dr (i := 1) (m := 6) (by decide) (by decide) (by decide)
  have r1 := drw_rng (ns := ns) (i := 1) (m := 6) (by decide)
  generalize drw ns 1 6 = f at *
  have f0 : 0 ≤ f := r1.1
  have f1 : f ≤ 10 := by omega
  have z2 := s_law_possible (X := X) (k := 7) (by omega) hx.tr (by omega) f
  have z3 := s_possible (X := X) (k := 7) hv (by omega) f0 f1
  obtain ⟨w1, z4⟩ := s_naive_possible (X := X) (k := 7) (by omega) hv f0 f1 []
  obtain ⟨c0, hm, z5⟩ := s_most_right (X := X) (k := 7) hv (by omega)
  have z6 := s_naive_most (X := X) (k := 7) hv hm (by omega)
  have z7 := s_wmost (k := 7) hv hm (by omega)
  have z8 := s_fewest_liars (X := X) (k := 7) hv (by omega)
  have hcl := hm.len
  have d2 := dr (i := 2) (m := 6) (by decide) (by decide) (by decide)
  have r2 := drw_rng (ns := ns) (i := 2) (m := 6) (by decide)
  have d3 := dr (i := 3) (m := 5) (by decide) (by decide) (by decide)
  have r3 := drw_rng (ns := ns) (i := 3) (m := 5) (by decide)
  obtain ⟨b0, m0, s0⟩ := sub_in (xs := badR) (j := drw ns 2 6) r2.1 r2.2
  obtain ⟨b1, m1, s1⟩ := sub_in (xs := badL) (j := drw ns 3 5) r3.1 r3.2
  obtain ⟨b0a, b0b⟩ := badR_no b0 m0
  obtain ⟨b1a, b1b⟩ := badL_no b1 m1
  simp only [badR, badL] at s0 s1
  generalize drw ns 2 6 = t2 at *
  generalize drw ns 3 5 = t3 at *
  have e0 : phi (U X) 7 200 [.int 0, b0, b1] = ret (.int 0) := s_err (c := 1) (by omega) (by decide) (by
    have z := np_bad1 (k := 6) (by omega) b0b b0a b1
    simp -implicitDefEqProofs [l0b_w_error, z])
  have e1 : phi (U X) 7 200 [.int 0, eRs rs, b1] = ret (.int 1) := s_err (c := 5) (by omega) (by decide) (by
    have z := np_bad5 (k := 6) (by omega) hv b1b b1a
    simp -implicitDefEqProofs [l0b_w_error, z])
  have e2 : phi (U X) 7 200 [.int 1, b0, .int 0] = ret (.int 0) := s_err (c := 1) (by omega) (by decide) (by
    have z := nm_bad1 (k := 6) (by omega) b0b b0a
    simp -implicitDefEqProofs [l0b_w_error, z])
  refine ⟨w1, at_run (f := f_wlaw) rfl (by omega) ?_⟩
  have eqP : eqL ((poss rs f).map eG) ((poss rs f).map eG) = true := by rw [eqL_G]; simp
  have shP : ((poss rs f).map eG).all (shp 7) = true := by simp
  have eqC : eqL (c0.map .str) (c0.map .str) = true := by rw [eqL_S]; simp
  have hcl2 : (c0.length : Int) = (most rs : Int) := by rw [hcl]
  have fin : evSs (Lk' X 7) b_wlaw [.v (eScr ns), .none, .none, .none, .none, .none, .none] [] = .rt (.bl true) w1 := by
    unfold b_wlaw
    refine stpS (r' := [.v (eScr ns), .none, .none, .none, .none, .v (eRs rs), .v (.int f)]) (w1 := []) (by simp -implicitDefEqProofs [z1, d1, nextS_at]) ?_
    refine stpS (r' := [.v (eScr ns), .v (eGs (poss rs f)), .none, .none, .none, .v (eRs rs), .v (.int f)]) (w1 := []) (by simp -implicitDefEqProofs [z2, nextS_at]) ?_
    generalize poss rs f = P at *
    refine stpS (r' := [.v (eScr ns), .v (eGs P), .none, .none, .none, .v (eRs rs), .v (.int f)]) (w1 := w1) (by
      simp -implicitDefEqProofs [bndE_at z4, z3, eqP, iteS_at, nextS_at]) ?_
    refine stpS (r' := [.v (eScr ns), .v (eGs P), .none, .none, .none, .v (eRs rs), .v (.int f)]) (w1 := w1) (by
      simp -implicitDefEqProofs [z6, z7, eqC, iteS_at, nextS_at]) ?_
    refine stpS (r' := [.v (eScr ns), .v (eGs P), .none, .none, .none, .v (eRs rs), .v (.int f)]) (w1 := w1) (by
      simp -implicitDefEqProofs [z5, z7, eqC, iteS_at, nextS_at]) ?_
    refine stpS (r' := [.v (eScr ns), .v (eGs P), .none, .none, .none, .v (eRs rs), .v (.int f)]) (w1 := w1) (by
      simp -implicitDefEqProofs [z8, z7, hcl2, iteS_at, nextS_at]) ?_
    refine stpS (r' := [.v (eScr ns), .v (eGs P), .v b0, .none, .none, .v (eRs rs), .v (.int f)]) (w1 := w1) (by
      simp -implicitDefEqProofs [d2, s0, nextS_at]) ?_
    refine stpS (r' := [.v (eScr ns), .v (eGs P), .v b0, .v b1, .none, .v (eRs rs), .v (.int f)]) (w1 := w1) (by
      simp -implicitDefEqProofs [d3, s1, nextS_at]) ?_
    refine stpS (r' := [.v (eScr ns), .v (eGs P), .v b0, .v b1, .v (.lst [.int 0, .int 1, .int 0]), .v (eRs rs), .v (.int f)]) (w1 := w1) (by
      simp -implicitDefEqProofs [e0, e1, e2, nextS_at]) ?_
    simp -implicitDefEqProofs [retS_at]
  exact outM_at fin
end Lw
end
section
set_option maxHeartbeats 0
namespace Lw
open PySem PySem.Spec PyProof.Rows L2 PyS
def top (i : Nat) : Stmt := PySem.Challenge.pw_timevote_k69_whole_naive.main.body.getD i (.Pass ⟨0, 0, 0, 0⟩)
def d_is_integer : PD := ⟨0, "is_integer", ["value"], top 9, f_is_integer⟩
def d_is_time : PD := ⟨1, "is_time", ["value"], top 10, f_is_time⟩
def d_is_name : PD := ⟨2, "is_name", ["value", "sign"], top 11, f_is_name⟩
def d_is_report : PD := ⟨3, "is_report", ["value"], top 12, f_is_report⟩
def d_sources : PD := ⟨4, "sources", ["reports", "name", "low", "high"], top 13, f_sources⟩
def d_are_reports : PD := ⟨5, "are_reports", ["candidate", "names", "report", "one", "other"], top 14, f_are_reports⟩
def d_check_reports : PD := ⟨6, "check_reports", ["value"], top 15, f_check_reports⟩
def d_right_names : PD := ⟨7, "right_names", ["reports", "time", "name", "low", "high"], top 16, f_right_names⟩
def d_borders : PD := ⟨9, "borders", ["reports", "found", "name", "low", "high"], top 17, f_borders⟩
def d_pieces : PD := ⟨10, "pieces", ["reports", "firsts", "first", "after"], top 18, f_pieces⟩
def d_merged : PD := ⟨20, "merged", ["parts", "found", "first", "last", "before"], top 20, f_merged⟩
def d_check_liars : PD := ⟨21, "check_liars", ["value"], top 23, f_check_liars⟩
def d_times_with : PD := ⟨22, "times_with", ["reports", "many", "part"], top 24, f_times_with⟩
def d_possible_times : PD := ⟨23, "possible_times", ["reports", "liars"], top 25, f_possible_times⟩
def d_possible : PD := ⟨24, "possible", ["reports", "liars"], top 26, f_possible⟩
def d_most_together : PD := ⟨27, "most_together", ["reports", "first", "last"], top 27, f_most_together⟩
def d_fewest_liars : PD := ⟨28, "fewest_liars", ["reports"], top 28, f_fewest_liars⟩
def d_naive_possible : PD := ⟨108, "naive_possible", ["reports", "liars", "changes", "time", "name", "low", "high", "found", "start", "right"], top 30, f_naive_possible⟩
def d_subsets : PD := ⟨102, "subsets", ["reports", "found", "report", "some"], top 31, f_subsets⟩
def d_have_common_time : PD := ⟨103, "have_common_time", ["reports", "name", "low", "high"], top 32, f_have_common_time⟩
def d_naive_most_right : PD := ⟨104, "naive_most_right", ["reports", "best", "some", "name", "low", "high"], top 33, f_naive_most_right⟩
def d_most_right : PD := ⟨43, "most_right", ["reports", "many", "found", "first", "last", "names"], top 35, f_most_right⟩
def d__law_drawn : PD := ⟨88, "_law_drawn", ["_law_script", "_law_k", "_law_many", "_law_cell", "_law_turn", "_law_rest"], top 37, f__law_drawn⟩
def d__law_reports : PD := ⟨98, "_law_reports", ["_law_script", "_law_at", "_law_most_here", "_law_found", "_law_k", "_law_here", "_law_low", "_law_high"], top 38, f__law_reports_v2⟩
def d__law_possible : PD := ⟨99, "_law_possible", ["_law_reports_here", "_law_liars", "_law_starts", "_law_found", "_law_first", "_law_after", "_law_lying", "_law_name", "_law_low", "_law_high"], top 39, f__law_possible⟩
def d__law_error : PD := ⟨200, "_law_error", ["_law_way", "_law_one", "_law_two", "e"], top 40, f_w_error⟩
def d__law_most : PD := ⟨201, "_law_most", ["_law_reports_here", "_law_found", "_law_name", "_law_low", "_law_high", "_law_names", "_law_row", "_law_one"], top 41, f_w_most⟩
def d_law : PD := ⟨202, "law", ["_law_script", "_law_due", "_law_odd", "_law_bad", "_law_told", "_law_reports_here", "_law_liars"], top 42, f_wlaw⟩
def ds : List PD := [d_is_integer, d_is_time, d_is_name, d_is_report, d_sources, d_are_reports, d_check_reports, d_right_names, d_borders, d_pieces, d_merged, d_check_liars, d_times_with, d_possible_times, d_possible, d_most_together, d_fewest_liars, d_naive_possible, d_subsets, d_have_common_time, d_naive_most_right, d_most_right, d__law_drawn, d__law_reports, d__law_possible, d__law_error, d__law_most, d_law]
def gs : List (Nat × Str × Py.D) := [(0, "MAX_TIME", (.int 9999)), (1, "MAX_SOURCES", (.int 10)), (2, "MAX_NAME", (.int 3)), (3, "LETTERS", (.str [97, 98, 99, 100, 101, 102, 103, 104, 105, 106, 107, 108, 109, 110, 111, 112, 113, 114, 115, 116, 117, 118, 119, 120, 121, 122])), (4, "MAX_LIARS", (.int 10))]
def cs : List (Nat × Str) := [(0, "VoteError"), (1, "InvalidReports"), (5, "InvalidNumber")]
def P : PT := ⟨ds, gs, cs, ["len", "max", "min", "all", "sorted", "tuple", "isinstance", "range", "zip", "int", "bool", "str", "set"], U X⟩
theorem bi_is_integer : BindOk d_is_integer := fun _ _ _ _ _ _ us hl => match us, hl with | [_], _ => rfl
theorem bi_is_time : BindOk d_is_time := fun _ _ _ _ _ _ us hl => match us, hl with | [_], _ => rfl
theorem bi_is_name : BindOk d_is_name := fun _ _ _ _ _ _ us hl => match us, hl with | [_], _ => rfl
theorem bi_is_report : BindOk d_is_report := fun _ _ _ _ _ _ us hl => match us, hl with | [_], _ => rfl
theorem bi_sources : BindOk d_sources := fun _ _ _ _ _ _ us hl => match us, hl with | [_], _ => rfl
theorem bi_are_reports : BindOk d_are_reports := fun _ _ _ _ _ _ us hl => match us, hl with | [_], _ => rfl
theorem bi_check_reports : BindOk d_check_reports := fun _ _ _ _ _ _ us hl => match us, hl with | [_], _ => rfl
theorem bi_right_names : BindOk d_right_names := fun _ _ _ _ _ _ us hl => match us, hl with | [_, _], _ => rfl
theorem bi_borders : BindOk d_borders := fun _ _ _ _ _ _ us hl => match us, hl with | [_], _ => rfl
theorem bi_pieces : BindOk d_pieces := fun _ _ _ _ _ _ us hl => match us, hl with | [_], _ => rfl
theorem bi_merged : BindOk d_merged := fun _ _ _ _ _ _ us hl => match us, hl with | [_], _ => rfl
theorem bi_check_liars : BindOk d_check_liars := fun _ _ _ _ _ _ us hl => match us, hl with | [_], _ => rfl
theorem bi_times_with : BindOk d_times_with := fun _ _ _ _ _ _ us hl => match us, hl with | [_, _], _ => rfl
theorem bi_possible_times : BindOk d_possible_times := fun _ _ _ _ _ _ us hl => match us, hl with | [_, _], _ => rfl
theorem bi_possible : BindOk d_possible := fun _ _ _ _ _ _ us hl => match us, hl with | [_, _], _ => rfl
theorem bi_most_together : BindOk d_most_together := fun _ _ _ _ _ _ us hl => match us, hl with | [_], _ => rfl
theorem bi_fewest_liars : BindOk d_fewest_liars := fun _ _ _ _ _ _ us hl => match us, hl with | [_], _ => rfl
theorem bi_naive_possible : BindOk d_naive_possible := fun _ _ _ _ _ _ us hl => match us, hl with | [_, _], _ => rfl
theorem bi_subsets : BindOk d_subsets := fun _ _ _ _ _ _ us hl => match us, hl with | [_], _ => rfl
theorem bi_have_common_time : BindOk d_have_common_time := fun _ _ _ _ _ _ us hl => match us, hl with | [_], _ => rfl
theorem bi_naive_most_right : BindOk d_naive_most_right := fun _ _ _ _ _ _ us hl => match us, hl with | [_], _ => rfl
theorem bi_most_right : BindOk d_most_right := fun _ _ _ _ _ _ us hl => match us, hl with | [_], _ => rfl
theorem bi__law_drawn : BindOk d__law_drawn := fun _ _ _ _ _ _ us hl => match us, hl with | [_, _, _], _ => rfl
theorem bi__law_reports : BindOk d__law_reports := fun _ _ _ _ _ _ us hl => match us, hl with | [_, _, _], _ => rfl
theorem bi__law_possible : BindOk d__law_possible := fun _ _ _ _ _ _ us hl => match us, hl with | [_, _], _ => rfl
theorem bi__law_error : BindOk d__law_error := fun _ _ _ _ _ _ us hl => match us, hl with | [_, _, _], _ => rfl
theorem bi__law_most : BindOk d__law_most := fun _ _ _ _ _ _ us hl => match us, hl with | [_], _ => rfl
theorem bi_law : BindOk d_law := fun _ _ _ _ _ _ us hl => match us, hl with | [_], _ => rfl
theorem binds : ∀ d ∈ P.ds, BindOk d := by
  intro d hd
  replace hd : d ∈ ds := hd
  simp only [ds, List.mem_cons, List.not_mem_nil, or_false] at hd
  rcases hd with rfl | rfl | rfl | rfl | rfl | rfl | rfl | rfl | rfl | rfl | rfl | rfl | rfl | rfl | rfl | rfl | rfl | rfl | rfl | rfl | rfl | rfl | rfl | rfl | rfl | rfl | rfl | rfl
  · exact bi_is_integer
  · exact bi_is_time
  · exact bi_is_name
  · exact bi_is_report
  · exact bi_sources
  · exact bi_are_reports
  · exact bi_check_reports
  · exact bi_right_names
  · exact bi_borders
  · exact bi_pieces
  · exact bi_merged
  · exact bi_check_liars
  · exact bi_times_with
  · exact bi_possible_times
  · exact bi_possible
  · exact bi_most_together
  · exact bi_fewest_liars
  · exact bi_naive_possible
  · exact bi_subsets
  · exact bi_have_common_time
  · exact bi_naive_most_right
  · exact bi_most_right
  · exact bi__law_drawn
  · exact bi__law_reports
  · exact bi__law_possible
  · exact bi__law_error
  · exact bi__law_most
  · exact bi_law
theorem fits1 : ∀ d ∈ P.ds, P.prog.defs d.id = some d.fd := by
  intro d hd
  replace hd : d ∈ ds := hd
  simp only [ds, List.mem_cons, List.not_mem_nil, or_false] at hd
  rcases hd with rfl | rfl | rfl | rfl | rfl | rfl | rfl | rfl | rfl | rfl | rfl | rfl | rfl | rfl | rfl | rfl | rfl | rfl | rfl | rfl | rfl | rfl | rfl | rfl | rfl | rfl | rfl | rfl
  · exact rfl
  · exact rfl
  · exact rfl
  · exact rfl
  · exact rfl
  · exact rfl
  · exact rfl
  · exact rfl
  · exact rfl
  · exact rfl
  · exact rfl
  · exact rfl
  · exact rfl
  · exact rfl
  · exact rfl
  · exact rfl
  · exact rfl
  · exact rfl
  · exact rfl
  · exact rfl
  · exact rfl
  · exact rfl
  · exact rfl
  · exact rfl
  · exact rfl
  · exact rfl
  · exact rfl
  · exact rfl
theorem fits2 : ∀ y ∈ P.gs, P.prog.g y.1 = y.2.2 := by
  show ∀ y ∈ gs, (U X).g y.1 = y.2.2
  unfold gs
  exact List.forall_mem_cons.mpr ⟨rfl, List.forall_mem_cons.mpr ⟨rfl, List.forall_mem_cons.mpr ⟨rfl, List.forall_mem_cons.mpr ⟨rfl, List.forall_mem_cons.mpr ⟨rfl, fun _ h => absurd h List.not_mem_nil⟩⟩⟩⟩⟩
theorem fits : P.fits := ⟨fits1, fits2⟩
theorem ok_is_integer : PD.ok P d_is_integer = true := by decide +kernel
theorem ok_is_time : PD.ok P d_is_time = true := by decide +kernel
theorem ok_is_name : PD.ok P d_is_name = true := by decide +kernel
theorem ok_is_report : PD.ok P d_is_report = true := by decide +kernel
theorem ok_sources : PD.ok P d_sources = true := by decide +kernel
theorem ok_are_reports : PD.ok P d_are_reports = true := by decide +kernel
theorem ok_check_reports : PD.ok P d_check_reports = true := by decide +kernel
theorem ok_right_names : PD.ok P d_right_names = true := by decide +kernel
theorem ok_borders : PD.ok P d_borders = true := by decide +kernel
theorem ok_pieces : PD.ok P d_pieces = true := by decide +kernel
theorem ok_merged : PD.ok P d_merged = true := by decide +kernel
theorem ok_check_liars : PD.ok P d_check_liars = true := by decide +kernel
theorem ok_times_with : PD.ok P d_times_with = true := by decide +kernel
theorem ok_possible_times : PD.ok P d_possible_times = true := by decide +kernel
theorem ok_possible : PD.ok P d_possible = true := by decide +kernel
theorem ok_most_together : PD.ok P d_most_together = true := by decide +kernel
theorem ok_fewest_liars : PD.ok P d_fewest_liars = true := by decide +kernel
theorem ok_naive_possible : PD.ok P d_naive_possible = true := by decide +kernel
theorem ok_subsets : PD.ok P d_subsets = true := by decide +kernel
theorem ok_have_common_time : PD.ok P d_have_common_time = true := by decide +kernel
theorem ok_naive_most_right : PD.ok P d_naive_most_right = true := by decide +kernel
theorem ok_most_right : PD.ok P d_most_right = true := by decide +kernel
theorem ok__law_drawn : PD.ok P d__law_drawn = true := by decide +kernel
theorem ok__law_reports : PD.ok P d__law_reports = true := by decide +kernel
theorem ok__law_possible : PD.ok P d__law_possible = true := by decide +kernel
theorem ok__law_error : PD.ok P d__law_error = true := by decide +kernel
theorem ok__law_most : PD.ok P d__law_most = true := by decide +kernel
theorem ok_law : PD.ok P d_law = true := by decide +kernel
theorem oks : ∀ d ∈ P.ds, PD.ok P d = true := by
  intro d hd
  replace hd : d ∈ ds := hd
  simp only [ds, List.mem_cons, List.not_mem_nil, or_false] at hd
  rcases hd with rfl | rfl | rfl | rfl | rfl | rfl | rfl | rfl | rfl | rfl | rfl | rfl | rfl | rfl | rfl | rfl | rfl | rfl | rfl | rfl | rfl | rfl | rfl | rfl | rfl | rfl | rfl | rfl
  · exact ok_is_integer
  · exact ok_is_time
  · exact ok_is_name
  · exact ok_is_report
  · exact ok_sources
  · exact ok_are_reports
  · exact ok_check_reports
  · exact ok_right_names
  · exact ok_borders
  · exact ok_pieces
  · exact ok_merged
  · exact ok_check_liars
  · exact ok_times_with
  · exact ok_possible_times
  · exact ok_possible
  · exact ok_most_together
  · exact ok_fewest_liars
  · exact ok_naive_possible
  · exact ok_subsets
  · exact ok_have_common_time
  · exact ok_naive_most_right
  · exact ok_most_right
  · exact ok__law_drawn
  · exact ok__law_reports
  · exact ok__law_possible
  · exact ok__law_error
  · exact ok__law_most
  · exact ok_law
theorem gok : P.gs.all cOk = true := by decide +kernel
abbrev R : PySem.W.OpenRow := PySem.W.OpenLaw.row PySem.Challenge.rw_timevote_k69_whole_naive
def lo0 : List PySem.Str := ["VoteError", "InvalidReports", "InvalidNumber", "MAX_TIME", "MAX_SOURCES", "MAX_NAME", "LETTERS", "is_integer", "is_time", "is_name", "is_report", "sources", "are_reports", "check_reports", "right_names", "borders", "pieces", "merged", "MAX_LIARS", "check_liars"]
def lo1 : List PySem.Str := ["times_with", "possible_times", "possible", "most_together", "fewest_liars", "naive_possible", "subsets", "have_common_time", "naive_most_right", "most_right", "_law_drawn", "_law_reports", "_law_possible", "_law_error", "_law_most"]
abbrev loose : List PySem.Str := lo0 ++ lo1
abbrev hk : PySem.W.Hook := P.hook 4
def ob (s : PySem.W.SharedT) : Bool × He.AlD := P.obs 4 (HandSHeadRun.getT s)
theorem ob_eq (s : PySem.W.SharedT) : ob s = hk.obs s.abs := PT.obs_eq (HandSHeadRun.getT_eq s)
theorem run (w : World) : HandSHeadRun.RunEq R (PySem.W.view R.prog [42]) hk ob 6000 loose w := by
  intro os
  kernel_rfl
end Lw
open PySem PySem.W PySem.Calls PyProof.Rows
theorem Lw.holds (hw : ∀ ns : List Int, ns.length ≤ 63 → ∃ ω', Py.phi (Lw.U Lw.X) 8 202 [.scr (ns.map .int)] [] = .ok (.bl true) ω') : PySem.Challenge.rw_timevote_k69_whole_naive.Holds := by
  w_on; o_law
  refine HandSHeadRun.head_any (r := OpenLaw.row PySem.Challenge.rw_timevote_k69_whole_naive) (q := view (OpenLaw.row PySem.Challenge.rw_timevote_k69_whole_naive).prog [42]) (H := Lw.hk) (ob := Lw.ob) (M := 6000) (loose := Lw.loose) (d := HandSHeadRun.topDef (OpenLaw.row PySem.Challenge.rw_timevote_k69_whole_naive).prog 42) (kwd := []) Lw.ob_eq
    (by kernel_rfl) (fun s => by kernel_rfl) Lw.run (by kernel_rfl) (by kernel_rfl) (by kernel_rfl) (by rfl) (by first | assumption | decide +kernel) (by decide +kernel) ⟨rfl, rfl, rfl, rfl, rfl, by decide +kernel⟩ ?hw ?hc
  case hw => w_witness2
  case hc =>
    refine L2.walk_ofE (l := PySem.Challenge.rw_timevote_k69_whole_naive) (n := 63) (k := 8) (x := "_law_script") (CX := PyS.CXA PySem.Challenge.rw_timevote_k69_whole_naive.prog) rfl (by decide) (by kernel_rfl) ⟨rfl, by decide, by decide⟩ ?F PyS.no_exc
    exact PyS.walk_law (p := Lw.P) (l := PySem.Challenge.rw_timevote_k69_whole_naive) (n := 63) (k := 8) (i := 202) (dl := Lw.d_law) (x := "_law_script") (m := 4) rfl (by decide) (by kernel_rfl) ⟨rfl, by decide, by decide⟩ rfl Lw.fits (by kernel_rfl) (by decide +kernel) rfl Lw.binds (fun g hg => List.all_eq_true.mp Lw.gok g hg) Lw.oks (fun ns hl => hw ns hl)
end
theorem PySem.Challenge.cw_timevote_k69_whole_naive_holds : PySem.Challenge.rw_timevote_k69_whole_naive.Holds :=
  Lw.holds fun ns hl => Lw.law_true ns hl
